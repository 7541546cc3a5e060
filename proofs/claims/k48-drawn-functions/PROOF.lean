import PyProof.Rows.All
import Wide.All
import OpenK.AllK
import Wide.FinOn
import HandS.ForMost
import HandS.ForExc
import HandS.CallSlots
import HandS.Flow
import HandS.Gcd
import HandS.Wide
import HandS.Walk
import HandS.TupAny
import HandS.TupMul
import HandS.Deep
import HandS.IsInst
import HandS.Conv
import KE.SortData
import HandS.Zip
import HandS.HeadHook2
import KE.KStateDown
import HandS.Defaults
import HandS.Head0
import HandS.Head1
import HandS.Head2
import HandS.Head3
import HandS.HeadEnd
import HandS.HeadHook1
import HandS.HeadWalk
import PySem.Challenge.RW_guessbound_k48_drawn_functions
set_option Elab.async false
set_option linter.all false
set_option maxRecDepth 100000
set_option maxHeartbeats 4000000
/-! a data layer over HandS: values as PyData, lists that a frame owns -/
namespace DL
open PySem PySem.Spec PyProof.Rows L2
abbrev D := PyData

/-! ### data in the abstract heap; O: the addresses that some frame may still change -/
/-- a tuple that stands: tracked, or of the written part -/
def StT (K : PySem.W.Frag) (O : Addr → Prop) (H : Hp) (a : Addr) (xs : List V) : Prop := (H a = some (.tup xs) ∧ ¬ O a) ∨ SqT K (fun _ => none) a xs
theorem StT.sq {K : PySem.W.Frag} {O : Addr → Prop} {H : Hp} {a : Addr} {xs : List V} (h : StT K O H a xs) : SqT K H a xs := by
  rcases h with h | (h | ⟨o, h⟩) | h
  · exact .inl (.inl h.1)
  · cases h
  · cases h
  · exact .inr h
mutual
inductive Dr (K : PySem.W.Frag) (O : Addr → Prop) (H : Hp) : V → D → Prop
  | non : Dr K O H .non .none
  | bl (b : Bool) : Dr K O H (.bl b) (.bool b)
  | int (i : Int) : Dr K O H (.int i) (.int i)
  | str (x : Str) : Dr K O H (.str x) (.str x)
  | lst {a : Addr} {xs : List V} {ds : List D} : H a = some (.lst xs) → ¬ O a → DrA K O H xs ds → Dr K O H (.ref a) (.list ds)
  | tup {a : Addr} {xs : List V} {ds : List D} : StT K O H a xs → DrA K O H xs ds → Dr K O H (.ref a) (.tuple ds)
inductive DrA (K : PySem.W.Frag) (O : Addr → Prop) (H : Hp) : List V → List D → Prop
  | nil : DrA K O H [] []
  | cons {v : V} {vs : List V} {d : D} {ds : List D} : Dr K O H v d → DrA K O H vs ds → DrA K O H (v :: vs) (d :: ds)
end
section
variable {K : PySem.W.Frag} {O O' : Addr → Prop} {H H' : Hp}
theorem StT.stay {a : Addr} {xs : List V} (h : StT K O H a xs) (kO : ∀ a o, H a = some o → ¬ O a → ¬ O' a) (k : ∀ o, ¬ O a → H a = some o → H' a = some o) : StT K O' H' a xs := by
  rcases h with h | h
  · exact .inl ⟨k _ h.2 h.1, kO _ _ h.1 h.2⟩
  · exact .inr h
mutual
/-- data stay while the heap keeps what no frame may change -/
theorem Dr.stay (kO : ∀ a o, H a = some o → ¬ O a → ¬ O' a) (k : ∀ b o, ¬ O b → H b = some o → H' b = some o) : ∀ (d : D) (v : V), Dr K O H v d → Dr K O' H' v d
  | .none, _, h => by cases h; exact .non
  | .bool _, _, h => by cases h; exact .bl _
  | .int _, _, h => by cases h; exact .int _
  | .str _, _, h => by cases h; exact .str _
  | .list ds, _, h => by
    cases h with
    | lst h1 h2 h3 => exact .lst (k _ _ h2 h1) (kO _ _ h1 h2) (DrA.stay kO k ds _ h3)
  | .tuple ds, _, h => by
    cases h with
    | tup h1 h3 => exact .tup (StT.stay h1 kO fun o n e => k _ o n e) (DrA.stay kO k ds _ h3)
  | .dict _, _, h => by cases h
theorem DrA.stay (kO : ∀ a o, H a = some o → ¬ O a → ¬ O' a) (k : ∀ b o, ¬ O b → H b = some o → H' b = some o) : ∀ (ds : List D) (vs : List V), DrA K O H vs ds → DrA K O' H' vs ds
  | [], _, h => by cases h; exact .nil
  | d :: ds, _, h => by
    cases h with
    | cons h1 h2 => exact .cons (Dr.stay kO k d _ h1) (DrA.stay kO k ds _ h2)
end
mutual
theorem Dr.dp : ∀ (d : D) (v : V), Dr K O H v d → Dp K H v d
  | .none, _, h => by cases h; exact .non
  | .bool _, _, h => by cases h; exact .bl _
  | .int _, _, h => by cases h; exact .int _
  | .str _, _, h => by cases h; exact .str _
  | .list ds, _, h => by
    cases h with
    | lst h1 h2 h3 => exact .lst (SqL.of h1) (DrA.dp ds _ h3)
  | .tuple ds, _, h => by
    cases h with
    | tup h1 h3 => exact .tup h1.sq (DrA.dp ds _ h3)
  | .dict _, _, h => by cases h
theorem DrA.dp : ∀ (ds : List D) (vs : List V), DrA K O H vs ds → DpAll K H vs ds
  | [], _, h => by cases h; exact .nil
  | d :: ds, _, h => by
    cases h with
    | cons h1 h2 => exact .cons (Dr.dp d _ h1) (DrA.dp ds _ h2)
end
theorem DrA.length : ∀ {ds : List D} {vs : List V}, DrA K O H vs ds → vs.length = ds.length
  | [], _, h => by cases h; rfl
  | _ :: _, _, h => by
    cases h with
    | cons _ h2 => exact congrArg (· + 1) (DrA.length h2)
theorem DrA.get : ∀ {ds : List D} {vs : List V} {i : Nat} {v : V}, DrA K O H vs ds → vs[i]? = some v → ∃ d, ds[i]? = some d ∧ Dr K O H v d
  | [], _, _, _, h, e => by cases h; simp at e
  | d :: ds, _, 0, _, h, e => by
    cases h with
    | cons h1 _ => simp at e; subst e; exact ⟨d, rfl, h1⟩
  | d :: ds, _, i + 1, _, h, e => by
    cases h with
    | cons _ h2 => exact DrA.get (i := i) h2 (by simpa using e)
theorem DrA.at : ∀ {ds : List D} {vs : List V} {i : Nat} {d : D}, DrA K O H vs ds → ds[i]? = some d → ∃ v, vs[i]? = some v ∧ Dr K O H v d
  | [], _, _, _, h, e => by simp at e
  | _ :: ds, _, 0, _, h, e => by
    cases h with
    | cons h1 _ => simp at e; subst e; exact ⟨_, rfl, h1⟩
  | _ :: ds, _, i + 1, _, h, e => by
    cases h with
    | cons _ h2 => exact DrA.at (i := i) h2 (by simpa using e)
theorem DrA.append : ∀ {ds es : List D} {vs ws : List V}, DrA K O H vs ds → DrA K O H ws es → DrA K O H (vs ++ ws) (ds ++ es)
  | [], _, _, _, h, g => by cases h; exact g
  | _ :: _, _, _, _, h, g => by
    cases h with
    | cons h1 h2 => exact .cons h1 (DrA.append h2 g)
theorem DrA.take : ∀ {ds : List D} {vs : List V} (n : Nat), DrA K O H vs ds → DrA K O H (vs.take n) (ds.take n)
  | [], _, n, h => by cases h; simp; exact .nil
  | _ :: _, _, 0, h => .nil
  | _ :: _, _, n + 1, h => by
    cases h with
    | cons h1 h2 => exact .cons h1 (DrA.take n h2)
theorem DrA.drop : ∀ {ds : List D} {vs : List V} (n : Nat), DrA K O H vs ds → DrA K O H (vs.drop n) (ds.drop n)
  | [], _, n, h => by cases h; simp; exact .nil
  | _ :: _, _, 0, h => h
  | _ :: _, _, n + 1, h => by
    cases h with
    | cons h1 h2 => exact DrA.drop n h2
theorem DrA.set : ∀ {ds : List D} {vs : List V} {v : V} {d : D} (i : Nat), DrA K O H vs ds → Dr K O H v d → DrA K O H (vs.set i v) (ds.set i d)
  | [], _, _, _, _, h, g => by cases h; exact .nil
  | _ :: _, _, _, _, 0, h, g => by
    cases h with
    | cons h1 h2 => exact .cons g h2
  | _ :: _, _, _, _, i + 1, h, g => by
    cases h with
    | cons h1 h2 => exact .cons h1 (DrA.set i h2 g)
theorem DrA.ints : ∀ {ns : List Int} {vs : List V}, DrA K O H vs (ns.map PyData.int) → vs = ns.map V.int
  | [], _, h => by cases h; rfl
  | n :: ns, _, h => by
    cases h with
    | cons h1 h2 =>
      cases h1
      rw [DrA.ints h2]
      rfl
theorem DrA.bools : ∀ {ns : List Bool} {vs : List V}, DrA K O H vs (ns.map PyData.bool) → vs = ns.map V.bl
  | [], _, h => by cases h; rfl
  | n :: ns, _, h => by
    cases h with
    | cons h1 h2 =>
      cases h1
      rw [DrA.bools h2]
      rfl
theorem DrA.of_ints : ∀ {ns : List Int}, DrA K O H (ns.map V.int) (ns.map PyData.int)
  | [] => .nil
  | n :: ns => .cons (.int n) DrA.of_ints
theorem DrA.reverse : ∀ {ds : List D} {vs : List V}, DrA K O H vs ds → DrA K O H vs.reverse ds.reverse
  | [], _, h => by cases h; exact .nil
  | _ :: _, _, h => by
    cases h with
    | cons h1 h2 =>
      rw [List.reverse_cons, List.reverse_cons]
      exact DrA.append (DrA.reverse h2) (.cons h1 .nil)
end

/-! ### what a value of an expression is known by: data, or a list that the frame owns -/
def BDr (K : PySem.W.Frag) (N : Addr → Prop) (O : Addr → Prop) (H : Hp) (v : V) (d : D) : Prop :=
  Dr K O H v d ∨ ∃ a xs ds, v = .ref a ∧ d = .list ds ∧ ¬ N a ∧ H a = some (.lst xs) ∧ DrA K O H xs ds
section
variable {K : PySem.W.Frag} {N : Addr → Prop} {O O' : Addr → Prop} {H H' : Hp}
theorem BDr.lst {v : V} {ds : List D} (h : BDr K N O H v (.list ds)) : ∃ a xs, v = .ref a ∧ H a = some (.lst xs) ∧ DrA K O H xs ds := by
  rcases h with h | ⟨a, xs, ds', rfl, e, _, h1, h2⟩
  · cases h with
    | lst h1 h2 h3 => exact ⟨_, _, rfl, h1, h3⟩
  · cases e; exact ⟨_, _, rfl, h1, h2⟩
theorem BDr.tup {v : V} {ds : List D} (h : BDr K N O H v (.tuple ds)) : ∃ a xs, v = .ref a ∧ SqT K H a xs ∧ DrA K O H xs ds := by
  rcases h with h | ⟨a, xs, ds', rfl, e, _, h1, h2⟩
  · cases h with
    | tup h1 h3 => exact ⟨_, _, rfl, h1.sq, h3⟩
  · cases e
theorem BDr.int {v : V} {i : Int} (h : BDr K N O H v (.int i)) : v = .int i := by
  rcases h with h | ⟨a, xs, ds', rfl, e, _, h1, h2⟩
  · cases h; rfl
  · cases e
theorem BDr.bl {v : V} {i : Bool} (h : BDr K N O H v (.bool i)) : v = .bl i := by
  rcases h with h | ⟨a, xs, ds', rfl, e, _, h1, h2⟩
  · cases h; rfl
  · cases e
theorem BDr.str {v : V} {i : Str} (h : BDr K N O H v (.str i)) : v = .str i := by
  rcases h with h | ⟨a, xs, ds', rfl, e, _, h1, h2⟩
  · cases h; rfl
  · cases e
theorem BDr.non {v : V} (h : BDr K N O H v .none) : v = .non := by
  rcases h with h | ⟨a, xs, ds', rfl, e, _, h1, h2⟩
  · cases h; rfl
  · cases e
theorem BDr.dict {v : V} {kvs : List (D × D)} (h : BDr K N O H v (.dict kvs)) : False := by
  rcases h with h | ⟨a, xs, ds', rfl, e, _, h1, h2⟩
  · cases h
  · cases e
theorem BDr.of {v : V} {d : D} (h : Dr K O H v d) : BDr K N O H v d := .inl h
theorem BDr.dp {v : V} {d : D} (h : BDr K N O H v d) : Dp K H v d := by
  rcases h with h | ⟨a, xs, ds, rfl, rfl, _, h1, h2⟩
  · exact Dr.dp _ _ h
  · exact .lst (SqL.of h1) (DrA.dp _ _ h2)
theorem BDr.notNone {v : V} {d : D} (h : BDr K N O H v d) : (v = .non) ↔ (d = .none) := by
  constructor
  · rintro rfl
    rcases h with h | ⟨a, xs, ds, e, _⟩
    · cases h; rfl
    · cases e
  · rintro rfl
    exact h.non
end
end DL

set_option Elab.async false
set_option linter.all false
set_option maxRecDepth 100000
set_option maxHeartbeats 4000000
namespace DL
open PySem PySem.Spec PyProof.Rows L2

/-! ### what a step at values hands back -/
def Dom (O : Addr → Prop) (H : Hp) : Prop := ∀ a, O a → ∃ o, H a = some o
/-- a list that comes back is a new one -/
def Fr1 (K : PySem.W.Frag) (O : Addr → Prop) (H H' : Hp) (v : V) (r : D) : Prop :=
  ∀ ds, r = .list ds → ∃ p xs, v = .ref p ∧ H p = none ∧ H' p = some (.lst xs) ∧ DrA K (fun a => O a ∨ a = p) H' xs ds
def Ans (K : PySem.W.Frag) (O : Addr → Prop) (H : Hp) (Q : VK) (r : D) : Prop := ∀ v H', Same H H' → Dr K O H' v r → Q v H'
def AnsF (K : PySem.W.Frag) (O : Addr → Prop) (H : Hp) (Q : VK) (r : D) : Prop := ∀ v H', Same H H' → Dr K O H' v r → Fr1 K O H H' v r → Q v H'
theorem AnsF.of {K : PySem.W.Frag} {O : Addr → Prop} {H : Hp} {Q : VK} {r : D} (h : Ans K O H Q r) : AnsF K O H Q r := fun v H' s d _ => h v H' s d
section
variable {K : PySem.W.Frag} {N : Addr → Prop} {O : Addr → Prop} {H H' : Hp} {Q : VK}
theorem Dom.fresh (d : Dom O H) {p : Addr} (h : H p = none) : ¬ O p := fun o => by
  obtain ⟨x, e⟩ := d p o
  rw [h] at e; cases e
theorem same_upd {p : Addr} {o : HO} (h : H p = none) : Same H (upd H p o) := fun b x e => by
  rw [upd_ne (ne_of_none e h)]
  exact e
theorem Dr.same {v : V} {d : D} (h : Dr K O H v d) (s : Same H H') : Dr K O H' v d := Dr.stay (fun _ _ _ n => n) (fun b o _ e => s b o e) d v h
theorem DrA.same {vs : List V} {ds : List D} (h : DrA K O H vs ds) (s : Same H H') : DrA K O H' vs ds := DrA.stay (fun _ _ _ n => n) (fun b o _ e => s b o e) ds vs h
theorem BDr.same {v : V} {d : D} (h : BDr K N O H v d) (s : Same H H') : BDr K N O H' v d := by
  rcases h with h | ⟨a, xs, ds, rfl, rfl, n, h1, h2⟩
  · exact .inl (h.same s)
  · exact .inr ⟨a, xs, ds, rfl, rfl, n, s _ _ h1, h2.same s⟩
/-- data that stand do not reach a new place -/
theorem DrA.more {vs : List V} {ds : List D} {p : Addr} (h : DrA K O H vs ds) (hp : H p = none) : DrA K (fun a => O a ∨ a = p) H vs ds :=
  DrA.stay (fun a o e n q => by
    rcases q with q | q
    · exact n q
    · rw [q, hp] at e; cases e) (fun _ _ _ e => e) ds vs h
theorem Dr.more {v : V} {d : D} {p : Addr} (h : Dr K O H v d) (hp : H p = none) : Dr K (fun a => O a ∨ a = p) H v d :=
  Dr.stay (fun a o e n q => by
    rcases q with q | q
    · exact n q
    · rw [q, hp] at e; cases e) (fun _ _ _ e => e) d v h
theorem Fr1.no {v : V} {r : D} (h : ∀ ds, r ≠ .list ds) : Fr1 K O H H' v r := fun ds e => absurd e (h ds)
theorem AnsF.int {i : Int} (q : AnsF K O H Q (.int i)) : Q (.int i) H := q _ _ (Same.refl H) (.int i) (.no fun _ => nofun)
theorem AnsF.bl {i : Bool} (q : AnsF K O H Q (.bool i)) : Q (.bl i) H := q _ _ (Same.refl H) (.bl i) (.no fun _ => nofun)
theorem AnsF.str {i : Str} (q : AnsF K O H Q (.str i)) : Q (.str i) H := q _ _ (Same.refl H) (.str i) (.no fun _ => nofun)
theorem AnsF.non (q : AnsF K O H Q .none) : Q .non H := q _ _ (Same.refl H) .non (.no fun _ => nofun)
theorem AnsF.same {r : D} {v : V} (q : AnsF K O H Q r) (h : Dr K O H v r) (n : ∀ ds, r ≠ .list ds) : Q v H := q _ _ (Same.refl H) h (.no n)
theorem AnsF.lst {ds : List D} {xs : List V} (q : AnsF K O H Q (.list ds)) (dm : Dom O H) (h : DrA K O H xs ds) : ∀ p, H p = none → Q (.ref p) (upd H p (.lst xs)) := fun p np =>
  q _ _ (same_upd np) (.lst upd_same (dm.fresh np) (h.same (same_upd np))) fun ds' e => by
    cases e
    exact ⟨p, xs, rfl, np, upd_same, (h.more np).same (same_upd np)⟩
theorem AnsF.tup {ds : List D} {xs : List V} (q : AnsF K O H Q (.tuple ds)) (dm : Dom O H) (h : DrA K O H xs ds) : ∀ p, H p = none → Q (.ref p) (upd H p (.tup xs)) := fun p np =>
  q _ _ (same_upd np) (.tup (.inl ⟨upd_same, dm.fresh np⟩) (h.same (same_upd np))) (.no fun _ => nofun)
end
theorem BDr.tupDr {K : PySem.W.Frag} {N : Addr → Prop} {O : Addr → Prop} {H : Hp} {v : V} {ds : List D} (h : BDr K N O H v (.tuple ds)) : Dr K O H v (.tuple ds) := by
  rcases h with z | ⟨_, _, _, _, e, _⟩
  · exact z
  · cases e
/-! ### the operators, over data -/
def dMulOk (i j : Int) : Prop := i.natAbs.log2 + j.natAbs.log2 < 1000000
def dDivOk (j : Int) : Prop := j ≠ 0 ∧ j.natAbs.log2 < 9000
def repD (k : Int) (ds : List D) : List D := (List.replicate k.toNat ds).flatten
def dAdd : D → D → (D → Prop) → Prop
  | .int i, .int j, Q => Q (.int (i + j))
  | .list a, .list b, Q => a.length + b.length ≤ sizeLine ∧ Q (.list (a ++ b))
  | .tuple a, .tuple b, Q => a.length + b.length ≤ sizeLine ∧ Q (.tuple (a ++ b))
  | .str a, .str b, Q => a.length + b.length ≤ sizeLine ∧ Q (.str (a ++ b))
  | _, _, _ => False
def dSub : D → D → (D → Prop) → Prop
  | .int i, .int j, Q => Q (.int (i - j))
  | .bool p, .bool q, Q => Q (.int (PyProof.Rows.b2i p - PyProof.Rows.b2i q))
  | _, _, _ => False
def dMul : D → D → (D → Prop) → Prop
  | .int i, .int j, Q => dMulOk i j ∧ Q (.int (i * j))
  | .list a, .int k, Q => -(2 ^ 63) ≤ k ∧ k < 2 ^ 63 ∧ a.length * k.toNat ≤ sizeLine ∧ Q (.list (repD k a))
  | .tuple a, .int k, Q => a ≠ [] ∧ 2 ≤ k ∧ k ≤ 1000 ∧ a.length ≤ 1000 ∧ Q (.tuple (repD k a))
  | _, _, _ => False
def dMod : D → D → (D → Prop) → Prop
  | .int i, .int j, Q => j ≠ 0 ∧ Q (.int (i.fmod j))
  | _, _, _ => False
def dDiv : D → D → (D → Prop) → Prop
  | .int i, .int j, Q => dDivOk j ∧ Q (.int (i.fdiv j))
  | _, _, _ => False
def R2D (K : PySem.W.Frag) (f : D → D → (D → Prop) → Prop) : R2 := fun x y H Q => ∃ N O d e, Dom O H ∧ BDr K N O H x d ∧ BDr K N O H y e ∧ ∃ P, f d e P ∧ ∀ r, P r → AnsF K O H Q r
section
variable {X : Cx}
theorem DrA.rep {K : PySem.W.Frag} {O : Addr → Prop} {H : Hp} {xs : List V} {ds : List D} (h : DrA K O H xs ds) : ∀ k : Nat, DrA K O H (List.replicate k xs).flatten (List.replicate k ds).flatten
  | 0 => .nil
  | k + 1 => by
    rw [List.replicate_succ, List.replicate_succ, List.flatten_cons, List.flatten_cons]
    exact h.append (DrA.rep h k)
theorem op_dAdd : OpR X (binaryOp .Add) (R2D X.K dAdd) := by
  intro pins s σ H x y v u Q I rx ry h
  obtain ⟨N, O, d, e, dm, hx, hy, P, q, hP⟩ := h
  unfold dAdd at q
  split at q
  · rw [hx.int] at rx; rw [hy.int] at ry
    exact op_add pins s σ H _ _ v u Q I rx ry ⟨_, _, rfl, rfl, (hP _ q).int⟩
  · obtain ⟨a, xs, rfl, h1, h2⟩ := hx.lst
    obtain ⟨b, ys, rfl, h3, h4⟩ := hy.lst
    exact op_cat pins s σ H _ _ v u Q I rx ry ⟨a, b, xs, ys, rfl, rfl, h1, h3, by rw [h2.length, h4.length]; exact q.1, (hP _ q.2).lst dm (h2.append h4)⟩
  · obtain ⟨a, xs, rfl, h1, h2⟩ := hx.tup
    obtain ⟨b, ys, rfl, h3, h4⟩ := hy.tup
    have hxa := hx.tupDr
    have hyb := hy.tupDr
    refine op_catA pins s σ H _ _ v u Q I rx ry ⟨a, b, xs, ys, rfl, rfl, h1, h3, by rw [h2.length, h4.length]; exact q.1, fun e => ?_, fun _ e => ?_, fun _ _ => (hP _ q.2).tup dm (h2.append h4)⟩
    · subst e
      have e2 := h2.length
      have e3 := List.eq_nil_of_length_eq_zero e2.symm
      subst e3
      exact (hP _ q.2).same hyb fun _ => nofun
    · subst e
      have e2 := h4.length
      have e3 := List.eq_nil_of_length_eq_zero e2.symm
      subst e3
      rw [List.append_nil] at q
      exact (hP _ q.2).same hxa fun _ => nofun
  · rw [hx.str] at rx; rw [hy.str] at ry
    exact op_add_str pins s σ H _ _ v u Q I rx ry ⟨_, _, rfl, rfl, q.1, (hP _ q.2).str⟩
  · exact q.elim
theorem op_dSub : OpR X (binaryOp .Sub) (R2D X.K dSub) := by
  intro pins s σ H x y v u Q I rx ry h
  obtain ⟨N, O, d, e, dm, hx, hy, P, q, hP⟩ := h
  unfold dSub at q
  split at q
  · rw [hx.int] at rx; rw [hy.int] at ry
    exact op_sub pins s σ H _ _ v u Q I rx ry ⟨_, _, rfl, rfl, (hP _ q).int⟩
  · rw [hx.bl] at rx; rw [hy.bl] at ry
    cases rx
    cases ry
    exact PyProof.Rows.sub_bool ⟨.int _, H, I.tok _, ⟨_, rfl⟩, (hP _ q).int⟩
  · exact q.elim
theorem op_dMul : OpR X (binaryOp .Mult) (R2D X.K dMul) := by
  intro pins s σ H x y v u Q I rx ry h
  obtain ⟨N, O, d, e, dm, hx, hy, P, q, hP⟩ := h
  unfold dMul at q
  split at q
  · rw [hx.int] at rx; rw [hy.int] at ry
    exact op_mulW pins s σ H _ _ v u Q I rx ry ⟨_, _, rfl, rfl, q.1, (hP _ q.2).int⟩
  · obtain ⟨a, xs, rfl, h1, h2⟩ := hx.lst
    rw [hy.int] at ry
    exact op_rep pins s σ H _ _ v u Q I rx ry ⟨a, _, xs, rfl, rfl, h1, q.1, q.2.1, by rw [h2.length]; exact q.2.2.1, (hP _ q.2.2.2).lst dm (h2.rep _)⟩
  · obtain ⟨a, xs, rfl, h1, h2⟩ := hx.tup
    rw [hy.int] at ry
    have hne : xs ≠ [] := fun z => q.1 (by
      rw [z] at h2
      exact List.eq_nil_of_length_eq_zero h2.length.symm)
    exact op_repT pins s σ H _ _ v u Q I rx ry ⟨a, _, xs, rfl, rfl, h1, hne, q.2.1, q.2.2.1, by rw [h2.length]; exact q.2.2.2.1, (hP _ q.2.2.2.2).tup dm (h2.rep _)⟩
  · exact q.elim
theorem op_dMod : OpR X (binaryOp .Mod) (R2D X.K dMod) := by
  intro pins s σ H x y v u Q I rx ry h
  obtain ⟨N, O, d, e, dm, hx, hy, P, q, hP⟩ := h
  unfold dMod at q
  split at q
  · rw [hx.int] at rx; rw [hy.int] at ry
    exact op_modN pins s σ H _ _ v u Q I rx ry ⟨_, _, rfl, rfl, q.1, (hP _ q.2).int⟩
  · exact q.elim
theorem op_fdivA : OpR X (binaryOp .FloorDiv) (rI (fun _ j => dDivOk j) fun i j => .int (i.fdiv j)) :=
  opI fun _ _ _ _ _ _ _ hc q => floordiv_int hc.1 q (.inl (PyProof.noPylong_of_log2 hc.2))
theorem op_dDiv : OpR X (binaryOp .FloorDiv) (R2D X.K dDiv) := by
  intro pins s σ H x y v u Q I rx ry h
  obtain ⟨N, O, d, e, dm, hx, hy, P, q, hP⟩ := h
  unfold dDiv at q
  split at q
  · rw [hx.int] at rx; rw [hy.int] at ry
    exact op_fdivA pins s σ H _ _ v u Q I rx ry ⟨_, _, rfl, rfl, q.1, (hP _ q.2).int⟩
  · exact q.elim
/-! comparisons -/
def shp (d : D) : Prop := SeqAt.shaped d = true
def dEq (d e : D) (Q : D → Prop) : Prop := shp d ∧ shp e ∧ Q (.bool (PyData.eqv d e))
def dNe (d e : D) (Q : D → Prop) : Prop := shp d ∧ shp e ∧ Q (.bool (!PyData.eqv d e))
def dLt : D → D → (D → Prop) → Prop
  | .int i, .int j, Q => Q (.bool (decide (i < j)))
  | _, _, _ => False
def dLe : D → D → (D → Prop) → Prop
  | .int i, .int j, Q => Q (.bool (decide (i ≤ j)))
  | _, _, _ => False
def dGt : D → D → (D → Prop) → Prop
  | .int i, .int j, Q => Q (.bool (decide (j < i)))
  | _, _, _ => False
def dGe : D → D → (D → Prop) → Prop
  | .int i, .int j, Q => Q (.bool (decide (j ≤ i)))
  | _, _, _ => False
def isNone : D → Bool
  | .none => true
  | _ => false
def dIs : D → D → (D → Prop) → Prop
  | d, .none, Q => Q (.bool (isNone d))
  | _, _, _ => False
def dIsnt : D → D → (D → Prop) → Prop
  | d, .none, Q => Q (.bool (!isNone d))
  | _, _, _ => False
theorem isNone_of {K : PySem.W.Frag} {N : Addr → Prop} {O : Addr → Prop} {H : Hp} {v : V} {d : D} (h : BDr K N O H v d) : decide (v = .non) = isNone d := by
  rcases h with h | ⟨a, xs, ds, rfl, rfl, _, h1, h2⟩
  · cases h <;> simp [isNone]
  · simp [isNone]
theorem op_dEq (hu : X.A.units + 64 < cLine) : OpR X (compareOp .Eq) (R2D X.K dEq) := by
  intro pins s σ H x y v u Q I rx ry h
  obtain ⟨N, O, d, e, dm, hx, hy, P, q, hP⟩ := h
  exact op_eqD hu pins s σ H _ _ v u Q I rx ry ⟨d, e, hx.dp, hy.dp, q.1, q.2.1, (hP _ q.2.2).bl⟩
theorem op_dNe (hu : X.A.units + 64 < cLine) : OpR X (compareOp .NotEq) (R2D X.K dNe) := by
  intro pins s σ H x y v u Q I rx ry h
  obtain ⟨N, O, d, e, dm, hx, hy, P, q, hP⟩ := h
  exact op_neD hu pins s σ H _ _ v u Q I rx ry ⟨d, e, hx.dp, hy.dp, q.1, q.2.1, (hP _ q.2.2).bl⟩
theorem op_dLt : OpR X (compareOp .Lt) (R2D X.K dLt) := by
  intro pins s σ H x y v u Q I rx ry h
  obtain ⟨N, O, d, e, dm, hx, hy, P, q, hP⟩ := h
  unfold dLt at q
  split at q
  · rw [hx.int] at rx; rw [hy.int] at ry
    exact op_lt pins s σ H _ _ v u Q I rx ry ⟨_, _, rfl, rfl, (hP _ q).bl⟩
  · exact q.elim
theorem op_dLe : OpR X (compareOp .LtE) (R2D X.K dLe) := by
  intro pins s σ H x y v u Q I rx ry h
  obtain ⟨N, O, d, e, dm, hx, hy, P, q, hP⟩ := h
  unfold dLe at q
  split at q
  · rw [hx.int] at rx; rw [hy.int] at ry
    exact op_le pins s σ H _ _ v u Q I rx ry ⟨_, _, rfl, rfl, (hP _ q).bl⟩
  · exact q.elim
theorem op_dGt : OpR X (compareOp .Gt) (R2D X.K dGt) := by
  intro pins s σ H x y v u Q I rx ry h
  obtain ⟨N, O, d, e, dm, hx, hy, P, q, hP⟩ := h
  unfold dGt at q
  split at q
  · rw [hx.int] at rx; rw [hy.int] at ry
    exact op_gt pins s σ H _ _ v u Q I rx ry ⟨_, _, rfl, rfl, (hP _ q).bl⟩
  · exact q.elim
theorem op_dGe : OpR X (compareOp .GtE) (R2D X.K dGe) := by
  intro pins s σ H x y v u Q I rx ry h
  obtain ⟨N, O, d, e, dm, hx, hy, P, q, hP⟩ := h
  unfold dGe at q
  split at q
  · rw [hx.int] at rx; rw [hy.int] at ry
    exact op_ge pins s σ H _ _ v u Q I rx ry ⟨_, _, rfl, rfl, (hP _ q).bl⟩
  · exact q.elim
theorem op_dIs : OpR X (compareOp .Is) (R2D X.K dIs) := by
  intro pins s σ H x y v u Q I rx ry h
  obtain ⟨N, O, d, e, dm, hx, hy, P, q, hP⟩ := h
  unfold dIs at q
  split at q
  · exact op_isN pins s σ H _ _ v u Q I rx ry ⟨hy.non, by rw [isNone_of hx]; exact (hP _ q).bl⟩
  · exact q.elim
theorem op_dIsnt : OpR X (compareOp .IsNot) (R2D X.K dIsnt) := by
  intro pins s σ H x y v u Q I rx ry h
  obtain ⟨N, O, d, e, dm, hx, hy, P, q, hP⟩ := h
  unfold dIsnt at q
  split at q
  · exact op_notN pins s σ H _ _ v u Q I rx ry ⟨hy.non, by rw [isNone_of hx]; exact (hP _ q).bl⟩
  · exact q.elim
end
end DL

set_option Elab.async false
set_option linter.all false
set_option maxRecDepth 100000
set_option maxHeartbeats 4000000
namespace DL
open PySem PySem.Spec PyProof.Rows L2

/-! ### built-in functions, over data -/
abbrev BDrA (K : PySem.W.Frag) (N : Addr → Prop) (O : Addr → Prop) (H : Hp) : List V → List D → Prop := Paired (BDr K N O H)
abbrev FD := List D → (D → Prop) → Prop
def RCD (K : PySem.W.Frag) (f : FD) : List V → Hp → VK → Prop := fun vs H Q => ∃ N O ds, Dom O H ∧ BDrA K N O H vs ds ∧ ∃ P, f ds P ∧ ∀ r, P r → AnsF K O H Q r
def intsOf : List D → Option (List Int)
  | [] => some []
  | .int i :: r => (intsOf r).map (i :: ·)
  | _ => none
def boolsOf : List D → Option (List Bool)
  | [] => some []
  | .bool i :: r => (boolsOf r).map (i :: ·)
  | _ => none
theorem intsOf_eq : ∀ {ds : List D} {ns : List Int}, intsOf ds = some ns → ds = ns.map PyData.int
  | [], ns, h => by simp [intsOf] at h; subst h; rfl
  | d :: r, ns, h => by
    cases d with
    | int i =>
      simp only [intsOf, Option.map_eq_some_iff] at h
      obtain ⟨m, h1, rfl⟩ := h
      rw [intsOf_eq h1]; rfl
    | _ => simp [intsOf] at h
theorem boolsOf_eq : ∀ {ds : List D} {ns : List Bool}, boolsOf ds = some ns → ds = ns.map PyData.bool
  | [], ns, h => by simp [boolsOf] at h; subst h; rfl
  | d :: r, ns, h => by
    cases d with
    | bool i =>
      simp only [boolsOf, Option.map_eq_some_iff] at h
      obtain ⟨m, h1, rfl⟩ := h
      rw [boolsOf_eq h1]; rfl
    | _ => simp [boolsOf] at h
@[simp] theorem intsOf_map : ∀ ns : List Int, intsOf (ns.map PyData.int) = some ns
  | [] => rfl
  | n :: r => by simp [intsOf, intsOf_map r]
@[simp] theorem boolsOf_map : ∀ ns : List Bool, boolsOf (ns.map PyData.bool) = some ns
  | [] => rfl
  | n :: r => by simp [boolsOf, boolsOf_map r]
def optQ {α : Type} (o : Option α) (Q : α → Prop) : Prop := match o with
  | some a => Q a
  | none => False
theorem optQ_iff {α : Type} {o : Option α} {Q : α → Prop} (h : optQ o Q) : ∃ a, o = some a ∧ Q a := by
  cases o with
  | none => exact h.elim
  | some a => exact ⟨a, rfl, h⟩
def dLen : FD
  | [.list ds], Q => Q (.int ds.length)
  | [.tuple ds], Q => Q (.int ds.length)
  | [.str z], Q => z.length ≤ sizeLine ∧ Q (.int z.length)
  | _, _ => False
def dTuple : FD
  | [.list ds], Q => Q (.tuple ds)
  | [.tuple ds], Q => Q (.tuple ds)
  | _, _ => False
def dList : FD
  | [.list ds], Q => Q (.list ds)
  | [.tuple ds], Q => Q (.list ds)
  | _, _ => False
def dSum : FD
  | [.list ds], Q => optQ (intsOf ds) fun ns => Q (.int ns.sum)
  | _, _ => False
def dAny : FD
  | [.list ds], Q => optQ (boolsOf ds) fun ns => Q (.bool (ns.any id))
  | _, _ => False
def dAll : FD
  | [.list ds], Q => optQ (boolsOf ds) fun ns => Q (.bool (ns.all id))
  | _, _ => False
def dAbs : FD
  | [.int i], Q => Q (.int i.natAbs)
  | _, _ => False
def dMin2 : FD
  | [.int i, .int j], Q => Q (.int (if j < i then j else i))
  | _, _ => False
def dMax2 : FD
  | [.int i, .int j], Q => Q (.int (if j > i then j else i))
  | _, _ => False
def dInt : FD
  | [.int i], Q => Q (.int i)
  | [.bool b], Q => Q (.int (if b then 1 else 0))
  | _, _ => False
def dGcd : FD
  | [.int i, .int j], Q => Q (.int (Nat.gcd i.natAbs j.natAbs : Nat))
  | _, _ => False
def dStr : FD
  | [.int i], Q => i.natAbs.log2 < 1920 ∧ Q (.str (toString i))
  | _, _ => False
abbrev ltD : D → D → Bool := PySem.W.dataLe false id
def sortD (ds : List D) : List D := ds.mergeSort ltD
def sortOk (ds : List D) : Prop := PySem.W.AllAlike ds ∧ PySem.W.Sortable ds ∧ ds.length ≤ sizeLine ∧ ∀ d ∈ ds, d.depth ≤ 64
def dSorted : FD
  | [.list ds], Q => sortOk ds ∧ Q (.list (sortD ds))
  | _, _ => False
section
variable {X : Cx}
theorem Paired.one {α β : Type} {F : α → β → Prop} {xs : List α} {b : β} (h : Paired F xs [b]) : ∃ a, xs = [a] ∧ F a b := by
  cases h with
  | cons h1 h2 => cases h2; exact ⟨_, rfl, h1⟩
theorem Paired.two {α β : Type} {F : α → β → Prop} {xs : List α} {b c : β} (h : Paired F xs [b, c]) : ∃ a a', xs = [a, a'] ∧ F a b ∧ F a' c := by
  cases h with
  | cons h1 h2 =>
    obtain ⟨a', rfl, h3⟩ := Paired.one h2
    exact ⟨_, a', rfl, h1, h3⟩
theorem cr_dLen : CallR X (.builtin "len") (RCD X.K dLen) := by
  intro pins s σ H vs us Q I r h
  obtain ⟨N, O, ds, dm, hv, P, q, hP⟩ := h
  unfold dLen at q
  split at q
  · obtain ⟨v, rfl, h1⟩ := Paired.one hv
    obtain ⟨a, xs, rfl, h2, h3⟩ := h1.lst
    exact call_len_seq pins s σ H _ us Q I r ⟨a, xs, rfl, .inl (SqL.of h2), by rw [h3.length]; exact (hP _ q).int⟩
  · obtain ⟨v, rfl, h1⟩ := Paired.one hv
    obtain ⟨a, xs, rfl, h2, h3⟩ := h1.tup
    exact call_len_seq pins s σ H _ us Q I r ⟨a, xs, rfl, .inr h2, by rw [h3.length]; exact (hP _ q).int⟩
  · obtain ⟨v, rfl, h1⟩ := Paired.one hv
    rw [h1.str] at r
    exact call_len_str pins s σ H _ us Q I r ⟨_, rfl, q.1, (hP _ q.2).int⟩
  · exact q.elim
theorem cr_dTuple : CallR X (.type "tuple") (RCD X.K dTuple) := by
  intro pins s σ H vs us Q I r h
  obtain ⟨N, O, ds, dm, hv, P, q, hP⟩ := h
  unfold dTuple at q
  split at q
  · obtain ⟨v, rfl, h1⟩ := Paired.one hv
    obtain ⟨a, xs, rfl, h2, h3⟩ := h1.lst
    exact call_tuple_of pins s σ H _ us Q I r ⟨a, xs, rfl, .inl ⟨SqL.of h2, (hP _ q).tup dm h3⟩⟩
  · obtain ⟨v, rfl, h1⟩ := Paired.one hv
    have hd := h1.tupDr
    obtain ⟨a, xs, rfl, h2, h3⟩ := h1.tup
    exact call_tuple_of pins s σ H _ us Q I r ⟨a, xs, rfl, .inr ⟨h2, (hP _ q).same hd fun _ => nofun⟩⟩
  · exact q.elim
theorem cr_dList : CallR X (.type "list") (RCD X.K dList) := by
  intro pins s σ H vs us Q I r h
  obtain ⟨N, O, ds, dm, hv, P, q, hP⟩ := h
  unfold dList at q
  split at q
  · obtain ⟨v, rfl, h1⟩ := Paired.one hv
    obtain ⟨a, xs, rfl, h2, h3⟩ := h1.lst
    exact call_list_of pins s σ H _ us Q I r ⟨a, xs, rfl, .inl (SqL.of h2), (hP _ q).lst dm h3⟩
  · obtain ⟨v, rfl, h1⟩ := Paired.one hv
    obtain ⟨a, xs, rfl, h2, h3⟩ := h1.tup
    exact call_list_of pins s σ H _ us Q I r ⟨a, xs, rfl, .inr h2, (hP _ q).lst dm h3⟩
  · exact q.elim
theorem cr_dSum (hc : X.calm = true) : CallR X (.builtin "sum") (RCD X.K dSum) := by
  intro pins s σ H vs us Q I r h
  obtain ⟨N, O, ds, dm, hv, P, q, hP⟩ := h
  unfold dSum at q
  split at q
  · obtain ⟨ns, e, q⟩ := optQ_iff q
    obtain ⟨v, rfl, h1⟩ := Paired.one hv
    obtain ⟨a, xs, rfl, h2, h3⟩ := h1.lst
    rw [intsOf_eq e] at h3
    rw [h3.ints] at h2
    exact cr_sum hc pins s σ H _ us Q I r ⟨a, ns, rfl, SqL.of h2, (hP _ q).int⟩
  · exact q.elim
theorem cr_dAny (hc : X.calm = true) : CallR X (.builtin "any") (RCD X.K dAny) := by
  intro pins s σ H vs us Q I r h
  obtain ⟨N, O, ds, dm, hv, P, q, hP⟩ := h
  unfold dAny at q
  split at q
  · obtain ⟨ns, e, q⟩ := optQ_iff q
    obtain ⟨v, rfl, h1⟩ := Paired.one hv
    obtain ⟨a, xs, rfl, h2, h3⟩ := h1.lst
    rw [boolsOf_eq e] at h3
    rw [h3.bools] at h2
    exact cr_any hc pins s σ H _ us Q I r ⟨a, ns, rfl, SqL.of h2, (hP _ q).bl⟩
  · exact q.elim
theorem cr_dAll (hc : X.calm = true) : CallR X (.builtin "all") (RCD X.K dAll) := by
  intro pins s σ H vs us Q I r h
  obtain ⟨N, O, ds, dm, hv, P, q, hP⟩ := h
  unfold dAll at q
  split at q
  · obtain ⟨ns, e, q⟩ := optQ_iff q
    obtain ⟨v, rfl, h1⟩ := Paired.one hv
    obtain ⟨a, xs, rfl, h2, h3⟩ := h1.lst
    rw [boolsOf_eq e] at h3
    rw [h3.bools] at h2
    exact cr_all hc pins s σ H _ us Q I r ⟨a, ns, rfl, SqL.of h2, (hP _ q).bl⟩
  · exact q.elim
theorem cr_dAbs : CallR X (.builtin "abs") (RCD X.K dAbs) := by
  intro pins s σ H vs us Q I r h
  obtain ⟨N, O, ds, dm, hv, P, q, hP⟩ := h
  unfold dAbs at q
  split at q
  · rename_i i
    obtain ⟨v, rfl, h1⟩ := Paired.one hv
    rw [h1.int] at r
    refine call_abs pins s σ H _ us Q I r ⟨_, rfl, ?_⟩
    have e : ∀ i : Int, (if i < 0 then -i else i) = (i.natAbs : Int) := fun i => by split <;> omega
    rw [e]
    exact (hP _ q).int
  · exact q.elim
theorem cr_dMin2 (hc : X.calm = true) : CallR X (.builtin "min") (RCD X.K dMin2) := by
  intro pins s σ H vs us Q I r h
  obtain ⟨N, O, ds, dm, hv, P, q, hP⟩ := h
  unfold dMin2 at q
  split at q
  · obtain ⟨v, v', rfl, h1, h2⟩ := Paired.two hv
    rw [h1.int, h2.int] at r
    exact call_min2 hc pins s σ H _ us Q I r ⟨_, _, rfl, (hP _ q).int⟩
  · exact q.elim
theorem cr_dMax2 (hc : X.calm = true) : CallR X (.builtin "max") (RCD X.K dMax2) := by
  intro pins s σ H vs us Q I r h
  obtain ⟨N, O, ds, dm, hv, P, q, hP⟩ := h
  unfold dMax2 at q
  split at q
  · obtain ⟨v, v', rfl, h1, h2⟩ := Paired.two hv
    rw [h1.int, h2.int] at r
    exact call_max2 hc pins s σ H _ us Q I r ⟨_, _, rfl, (hP _ q).int⟩
  · exact q.elim
theorem cr_dInt : CallR X (.type "int") (RCD X.K dInt) := by
  intro pins s σ H vs us Q I r h
  obtain ⟨N, O, ds, dm, hv, P, q, hP⟩ := h
  unfold dInt at q
  split at q
  · obtain ⟨v, rfl, h1⟩ := Paired.one hv
    rw [h1.int] at r
    exact call_int1 pins s σ H _ us Q I r (.inl ⟨_, rfl, (hP _ q).int⟩)
  · obtain ⟨v, rfl, h1⟩ := Paired.one hv
    rw [h1.bl] at r
    exact call_int1 pins s σ H _ us Q I r (.inr ⟨_, rfl, (hP _ q).int⟩)
  · exact q.elim
theorem cr_dStr : CallR X (.type "str") (RCD X.K dStr) := by
  intro pins s σ H vs us Q I r h
  obtain ⟨N, O, ds, dm, hv, P, q, hP⟩ := h
  unfold dStr at q
  split at q
  · obtain ⟨v, rfl, h1⟩ := Paired.one hv
    rw [h1.int] at r
    exact call_str_int pins s σ H _ us Q I r ⟨_, rfl, q.1, (hP _ q.2).str⟩
  · exact q.elim
theorem cr_dGcd : CallR X (.builtin "math.gcd") (RCD X.K dGcd) := by
  intro pins s σ H vs us Q I r h
  obtain ⟨N, O, ds, dm, hv, P, q, hP⟩ := h
  unfold dGcd at q
  split at q
  · obtain ⟨v, v', rfl, h1, h2⟩ := Paired.two hv
    rw [h1.int, h2.int] at r
    exact cr_gcd pins s σ H _ us Q I r ⟨_, _, rfl, (hP _ q).int⟩
  · exact q.elim
theorem DrA.zip {K : PySem.W.Frag} {O : Addr → Prop} {H : Hp} : ∀ {xs : List V} {ds : List D}, DrA K O H xs ds → ∀ p ∈ xs.zip ds, Dr K O H p.1 p.2
  | _, [], h, p, hp => by cases h; simp at hp
  | _, _ :: _, h, p, hp => by
    cases h with
    | cons h1 h2 =>
      rw [List.zip_cons_cons] at hp
      rcases List.mem_cons.mp hp with rfl | hp
      · exact h1
      · exact DrA.zip h2 p hp
theorem DrA.of_pairs {K : PySem.W.Frag} {O : Addr → Prop} {H : Hp} : ∀ {ps : List (V × D)}, (∀ p ∈ ps, Dr K O H p.1 p.2) → DrA K O H (ps.map Prod.fst) (ps.map Prod.snd)
  | [], _ => .nil
  | p :: ps, h => .cons (h p List.mem_cons_self) (DrA.of_pairs fun q hq => h q (List.mem_cons_of_mem _ hq))
theorem each_vals {vs : List V} {us : List Value} (r : Vals vs us) : ∀ {ds : List D}, vs.length = ds.length → PySem.W.EachIs (fun (u : Value) (p : V × D) => RelV p.1 u) us (vs.zip ds) := by
  induction r with
  | nil => intro ds _; simp; exact .nil
  | cons r1 _ ih =>
    intro ds hl
    cases ds with
    | nil => simp at hl
    | cons d ds =>
      rw [List.zip_cons_cons]
      exact .cons r1 (ih (by simpa using hl))
theorem each_reads {pins : List (Addr × Obj)} {σ : L2.St} {H : Hp} {s : Shared} (I : Inv X pins σ H s) : ∀ {vs : List V} {us : List Value} {ds : List D}, Vals vs us → DpAll X.K H vs ds →
    PySem.W.EachIs (fun (u : Value) (p : V × D) => ∃ as, PySem.Reads s.heap u p.2 as) us (vs.zip ds)
  | _, _, [], r, h => by cases h; cases r; exact .nil
  | _, _, _ :: _, r, h => by
    cases h with
    | cons h1 h2 =>
      cases r with
      | cons r1 r2 =>
        rw [List.zip_cons_cons]
        exact .cons (Dp.reads I _ _ _ h1 r1) (each_reads I r2 h2)
theorem vals_each {us : List Value} {ps : List (V × D)} (h : PySem.W.EachIs (fun (u : Value) (p : V × D) => RelV p.1 u) us ps) : Vals (ps.map Prod.fst) us := by
  induction h with
  | nil => exact .nil
  | cons h1 _ ih => exact .cons h1 ih
theorem zip_map_snd : ∀ {vs : List V} {ds : List D}, vs.length = ds.length → (vs.zip ds).map Prod.snd = ds
  | [], [], _ => rfl
  | [], _ :: _, h => by simp at h
  | _ :: _, [], h => by simp at h
  | v :: vs, d :: ds, h => by rw [List.zip_cons_cons, List.map_cons, zip_map_snd (by simpa using h)]
theorem cr_dSorted (hu : X.A.units + 66 < cLine) : CallR X (.builtin "sorted") (RCD X.K dSorted) := by
  intro pins s σ H vs us Q I r h
  obtain ⟨N, O, ds, dm, hv, P, q, hP⟩ := h
  unfold dSorted at q
  split at q
  · rename_i l
    obtain ⟨⟨ok1, ok2, ok3, ok4⟩, q⟩ := q
    obtain ⟨v, rfl, h1⟩ := Paired.one hv
    obtain ⟨a, xs, rfl, h2, h3⟩ := h1.lst
    rw [Vals.ref1 r]
    obtain ⟨its, rv, pl, hz⟩ := I.list (SqL.of h2)
    have hl : xs.length = l.length := h3.length
    have er := each_reads I rv (DrA.dp _ _ h3)
    have ev := each_vals rv hl
    have em : (xs.zip l).map (fun p => p.2) = l := zip_map_snd hl
    refine PySem.W.sorted_data (β := V × D) (bs := xs.zip l) (enc := Prod.snd) pl.isList ev er (by rw [show (xs.zip l).map Prod.snd = l from em]; exact ok1) (by rw [show (xs.zip l).map Prod.snd = l from em]; exact ok2)
      (by rw [List.length_zip]; omega) (fun b hb => ?_) fun out ho eo => ?_
    · have hb2 : b.2 ∈ l := by
        rw [← show (xs.zip l).map Prod.snd = l from em]
        exact List.mem_map_of_mem hb
      have := ok4 b.2 hb2
      omega
    · obtain ⟨ep, he'⟩ := PyProof.Rows.sortedAll_at s.heap its out.toArray
      have eD : ((xs.zip l).mergeSort (PySem.W.dataLe false Prod.snd)).map Prod.snd = sortD l := by
        have e0 := PySem.W.sort_maps (r := PySem.W.dataLe false Prod.snd) (s := ltD) (l := xs.zip l) (Prod.snd : V × D → D) fun a _ b _ => rfl
        rw [e0, show (xs.zip l).map Prod.snd = l from em]
        rfl
      have hlen : (((xs.zip l).mergeSort (PySem.W.dataLe false Prod.snd)).map Prod.fst).length ≤ sizeLine := by
        rw [List.length_map, List.length_mergeSort, List.length_zip]
        omega
      have hA : DrA X.K O H (((xs.zip l).mergeSort (PySem.W.dataLe false Prod.snd)).map Prod.fst) (sortD l) := by
        rw [← eD]
        exact DrA.of_pairs fun p hp => h3.zip p (List.mem_mergeSort.mp hp)
      exact ⟨.ref _, upd H (s.heap.objs.size + 1) (.lst _), I.laid (t' := s.toks) (fun _ _ => PyProof.Rows.sortedAll_old) (Nat.le_succ _) ⟨hlen, out, ep, vals_each eo, he'⟩, rfl, (hP _ q).lst dm hA _ (I.hok.fresh (Nat.le_succ _))⟩
  · exact q.elim
/-! isinstance -/
def tyOfD : D → String
  | .none => "NoneType"
  | .bool _ => "bool"
  | .int _ => "int"
  | .str _ => "str"
  | .list _ => "list"
  | .tuple _ => "tuple"
  | .dict _ => "dict"
def isiD (T : String) : D → Bool
  | .none => false
  | .bool _ => T == "int" || T == "bool"
  | .int _ => T == "int"
  | .str _ => T == "str"
  | .list _ => T == "list"
  | .tuple _ => T == "tuple"
  | .dict _ => T == "dict"
theorem BDr.tyX {K : PySem.W.Frag} {N : Addr → Prop} {O : Addr → Prop} {H : Hp} {v : V} {d : D} (h : BDr K N O H v d) : TyX K H v (.type (tyOfD d)) := by
  rcases h with h | ⟨a, xs, ds, rfl, rfl, _, h1, h2⟩
  · cases h with
    | non => exact .base .non
    | bl b => exact .base (.bl b)
    | int i => exact .base (.int i)
    | str x => exact .base (.str x)
    | lst h1 _ _ => exact .base (.lst h1)
    | tup h1 _ =>
      rcases h1 with h1 | ((h1 | ⟨_, h1⟩) | ⟨o, its, n, h1, h2, _⟩)
      · exact .base (.tup h1.1)
      · cases h1
      · cases h1
      · exact .kTuple h1 h2
  · exact .base (.lst h1)
theorem kit_isi (T : String) (hT : T = "int" ∨ T = "bool" ∨ T = "str" ∨ T = "tuple" ∨ T = "list") {d : D} (hd : ∀ kvs, d ≠ .dict kvs) : kitB (tyOfD d) T = some (isiD T d) := by
  rcases hT with rfl | rfl | rfl | rfl | rfl <;> (cases d with
    | dict kvs => exact absurd rfl (hd kvs)
    | _ => (simp only [tyOfD, isiD]; decide +kernel))
end
end DL

set_option Elab.async false
set_option linter.all false
set_option maxRecDepth 100000
set_option maxHeartbeats 4000000
namespace DL
open PySem PySem.Spec PyProof.Rows L2

/-! ### a frame over data -/
/-- a slot: data that stand, a list that the frame owns, the draw -/
inductive Sl where
  | fz (d : D)
  | ow (d : D)
  | dr
abbrev Rho := List (Option Sl)
/-- what is fixed for a frame: what its callers own, the draw's list, what stood -/
structure Fm where
  O0 : Addr → Prop
  dA : Option Addr
  dC : Addr
  H0 : Hp
def DrawOk (K : PySem.W.Frag) (O : Addr → Prop) (H : Hp) (a c : Addr) : Prop :=
  ∃ (cells : List Int) (i cur seed : Int), H a = some (.lst [.ref c, .int i, .int cur, .int seed]) ∧ H c = some (.lst (cells.map V.int)) ∧ ¬ O c ∧ c ≠ a ∧ (∀ x ∈ cells, 0 ≤ x) ∧ cells.length ≤ 63 ∧ -1 ≤ i ∧ 0 ≤ cur ∧ 0 ≤ seed ∧ seed < 2147483647
def OwR (K : PySem.W.Frag) (O : Addr → Prop) (H : Hp) (a : Addr) (d : D) : Prop := ∃ xs ds, d = .list ds ∧ H a = some (.lst xs) ∧ DrA K O H xs ds
def SlotR (K : PySem.W.Frag) (F : Fm) (O : Addr → Prop) (H : Hp) (v : V) : Sl → Prop
  | .fz d => Dr K O H v d
  | .ow d => ∃ a, v = .ref a ∧ O a ∧ ¬ F.O0 a ∧ OwR K O H a d
  | .dr => ∃ a, F.dA = some a ∧ v = .ref a
structure EnvR (K : PySem.W.Frag) (F : Fm) (O : Addr → Prop) (H : Hp) (σ : L2.St) (ρ : Rho) : Prop where
  len : σ.length = ρ.length
  slot : ∀ (i : Nat) (s : Sl), ρ[i]? = some (some s) → ∃ v, σ[i]? = some (some v) ∧ SlotR K F O H v s
  sep : ∀ (i j : Nat) (d e : D) (a : Addr), ρ[i]? = some (some (.ow d)) → ρ[j]? = some (some (.ow e)) → σ[i]? = some (some (.ref a)) → σ[j]? = some (some (.ref a)) → i = j
  sub : ∀ a, F.O0 a → O a
  dom : Dom O H
  unp : ∀ a, O a → ¬ F.O0 a → F.H0 a = none
  keep : ∀ b o, F.dA ≠ some b → F.H0 b = some o → H b = some o
  drw : ∀ a, F.dA = some a → F.O0 a ∧ DrawOk K O H a F.dC
/-- a step of an expression: all that stood stands, but the draw may have turned -/
structure Stp (K : PySem.W.Frag) (F : Fm) (O : Addr → Prop) (H H' : Hp) : Prop where
  keep : ∀ b o, F.dA ≠ some b → H b = some o → H' b = some o
  drw : ∀ a, F.dA = some a → DrawOk K O H' a F.dC
section
variable {K : PySem.W.Frag} {F : Fm} {O O' : Addr → Prop} {H H' H1 H2 : Hp} {σ : L2.St} {ρ : Rho} {v : V} {d : D}
theorem Stp.refl (e : EnvR K F O H σ ρ) : Stp K F O H H := ⟨fun _ _ _ h => h, fun a h => (e.drw a h).2⟩
theorem Stp.trans (a : Stp K F O H H1) (b : Stp K F O H1 H2) : Stp K F O H H2 := ⟨fun c o n h => b.keep c o n (a.keep c o n h), b.drw⟩
theorem DrawOk.same {a c : Addr} (h : DrawOk K O H a c) (s : Same H H') : DrawOk K O H' a c := by
  obtain ⟨cells, i, cur, seed, h1, h2, h3⟩ := h
  exact ⟨cells, i, cur, seed, s _ _ h1, s _ _ h2, h3⟩
theorem Stp.same (e : EnvR K F O H σ ρ) (s : Same H H') : Stp K F O H H' := ⟨fun b o _ h => s b o h, fun a h => (e.drw a h).2.same s⟩
theorem EnvR.nd (e : EnvR K F O H σ ρ) {b : Addr} (h : ¬ O b) : F.dA ≠ some b := fun q => h (e.sub b (e.drw b q).1)
theorem EnvR.ndo (e : EnvR K F O H σ ρ) {b : Addr} (h : ¬ F.O0 b) : F.dA ≠ some b := fun q => h (e.drw b q).1
theorem Dr.stp (e : EnvR K F O H σ ρ) (h : Dr K O H v d) (s : Stp K F O H H') : Dr K O H' v d := Dr.stay (fun _ _ _ n => n) (fun b o n q => s.keep b o (e.nd n) q) d v h
theorem DrA.stp {vs : List V} {ds : List D} (e : EnvR K F O H σ ρ) (h : DrA K O H vs ds) (s : Stp K F O H H') : DrA K O H' vs ds := DrA.stay (fun _ _ _ n => n) (fun b o n q => s.keep b o (e.nd n) q) ds vs h
theorem BDr.stp (e : EnvR K F O H σ ρ) (h : BDr K F.O0 O H v d) (s : Stp K F O H H') : BDr K F.O0 O H' v d := by
  rcases h with h | ⟨a, xs, ds, rfl, rfl, n, h1, h2⟩
  · exact .inl (h.stp e s)
  · exact .inr ⟨a, xs, ds, rfl, rfl, n, s.keep _ _ (e.ndo n) h1, h2.stp e s⟩
theorem Stp.free (e : EnvR K F O H σ ρ) (s : Stp K F O H H') {p : Addr} (h : H' p = none) : H p = none := by
  cases q : H p with
  | none => rfl
  | some o =>
    by_cases hd : F.dA = some p
    · obtain ⟨cells, i, cur, seed, h1, _⟩ := s.drw p hd
      rw [h] at h1; cases h1
    · rw [s.keep p o hd q] at h; cases h
theorem SlotR.stp {s : Sl} (e : EnvR K F O H σ ρ) (h : SlotR K F O H v s) (st : Stp K F O H H') : SlotR K F O H' v s := by
  cases s with
  | fz d => exact Dr.stp e h st
  | dr => exact h
  | ow d =>
    obtain ⟨a, rfl, h1, h2, xs, ds, rfl, h3, h4⟩ := h
    exact ⟨a, rfl, h1, h2, xs, ds, rfl, st.keep _ _ (e.ndo h2) h3, h4.stp e st⟩
theorem EnvR.stp (e : EnvR K F O H σ ρ) (s : Stp K F O H H') : EnvR K F O H' σ ρ where
  len := e.len
  slot := fun i x h => by
    obtain ⟨v, h1, h2⟩ := e.slot i x h
    exact ⟨v, h1, h2.stp e s⟩
  sep := e.sep
  sub := e.sub
  dom := fun a h => by
    by_cases hd : F.dA = some a
    · obtain ⟨cells, i, cur, seed, h1, _⟩ := s.drw a hd
      exact ⟨_, h1⟩
    · obtain ⟨o, h1⟩ := e.dom a h
      exact ⟨o, s.keep a o hd h1⟩
  unp := e.unp
  keep := fun b o n h => s.keep b o n (e.keep b o n h)
  drw := fun a h => ⟨(e.drw a h).1, s.drw a h⟩
/-- a name's value, read -/
theorem EnvR.fz (e : EnvR K F O H σ ρ) {i : Nat} (h : ρ[i]? = some (some (.fz d))) : ∃ v, σ[i]? = some (some v) ∧ Dr K O H v d := e.slot i _ h
theorem EnvR.ow (e : EnvR K F O H σ ρ) {i : Nat} (h : ρ[i]? = some (some (.ow d))) : ∃ a xs ds, d = .list ds ∧ σ[i]? = some (some (.ref a)) ∧ O a ∧ ¬ F.O0 a ∧ H a = some (.lst xs) ∧ DrA K O H xs ds := by
  obtain ⟨v, h1, a, rfl, h2, h3, xs, ds, rfl, h4, h5⟩ := e.slot i _ h
  exact ⟨a, xs, ds, rfl, h1, h2, h3, h4, h5⟩
theorem EnvR.owB (e : EnvR K F O H σ ρ) {i : Nat} (h : ρ[i]? = some (some (.ow d))) : ∃ v, σ[i]? = some (some v) ∧ BDr K F.O0 O H v d := by
  obtain ⟨a, xs, ds, rfl, h1, h2, h3, h4, h5⟩ := e.ow h
  exact ⟨.ref a, h1, .inr ⟨a, xs, ds, rfl, rfl, h3, h4, h5⟩⟩

/-! ### slots stored -/
theorem get_set {α : Type} {l : List α} {i j : Nat} {x y : α} (h : (l.set i x)[j]? = some y) : (j = i ∧ y = x ∧ i < l.length) ∨ (j ≠ i ∧ l[j]? = some y) := by
  by_cases hj : j = i
  · subst hj
    by_cases hl : j < l.length
    · rw [List.getElem?_set_self hl] at h
      exact .inl ⟨rfl, (Option.some.inj h).symm, hl⟩
    · rw [List.getElem?_eq_none (by simpa using hl)] at h; cases h
  · rw [List.getElem?_set_ne (Ne.symm hj)] at h
    exact .inr ⟨hj, h⟩
/-- a name is bound to data -/
theorem EnvR.set (e : EnvR K F O H σ ρ) {i : Nat} (h : Dr K O H v d) : EnvR K F O H (σ.set i (some v)) (ρ.set i (some (.fz d))) where
  len := by rw [List.length_set, List.length_set]; exact e.len
  slot := fun j s q => by
    rcases get_set q with ⟨rfl, e2, hl⟩ | ⟨hj, q⟩
    · cases e2
      exact ⟨v, by rw [List.getElem?_set_self (by rw [e.len]; exact hl)], h⟩
    · obtain ⟨w, h1, h2⟩ := e.slot j s q
      exact ⟨w, by rw [List.getElem?_set_ne (Ne.symm hj)]; exact h1, h2⟩
  sep := fun j k d' e' a q1 q2 q3 q4 => by
    rcases get_set q1 with ⟨_, e2, _⟩ | ⟨hj, q1⟩
    · cases e2
    rcases get_set q2 with ⟨_, e2, _⟩ | ⟨hk, q2⟩
    · cases e2
    rw [List.getElem?_set_ne (Ne.symm hj)] at q3
    rw [List.getElem?_set_ne (Ne.symm hk)] at q4
    exact e.sep j k d' e' a q1 q2 q3 q4
  sub := e.sub
  dom := e.dom
  unp := e.unp
  keep := e.keep
  drw := e.drw
/-- a name is forgotten -/
theorem EnvR.unset (e : EnvR K F O H σ ρ) {i : Nat} (x : Option V) : EnvR K F O H (σ.set i x) (ρ.set i none) where
  len := by rw [List.length_set, List.length_set]; exact e.len
  slot := fun j s q => by
    rcases get_set q with ⟨rfl, e2, hl⟩ | ⟨hj, q⟩
    · cases e2
    · obtain ⟨w, h1, h2⟩ := e.slot j s q
      exact ⟨w, by rw [List.getElem?_set_ne (Ne.symm hj)]; exact h1, h2⟩
  sep := fun j k d' e' a q1 q2 q3 q4 => by
    rcases get_set q1 with ⟨_, e2, _⟩ | ⟨hj, q1⟩
    · cases e2
    rcases get_set q2 with ⟨_, e2, _⟩ | ⟨hk, q2⟩
    · cases e2
    rw [List.getElem?_set_ne (Ne.symm hj)] at q3
    rw [List.getElem?_set_ne (Ne.symm hk)] at q4
    exact e.sep j k d' e' a q1 q2 q3 q4
  sub := e.sub
  dom := e.dom
  unp := e.unp
  keep := e.keep
  drw := e.drw
/-- the heap grows by a new list that the frame is to own -/
theorem EnvR.own (e : EnvR K F O H σ ρ) {i : Nat} {p : Addr} {xs : List V} {ds : List D} (st : Stp K F O H H') (hp : H p = none) (hp' : H' p = some (.lst xs)) (h : DrA K (fun a => O a ∨ a = p) H' xs ds) :
    EnvR K F (fun a => O a ∨ a = p) H' (σ.set i (some (.ref p))) (ρ.set i (some (.ow (.list ds)))) := by
  have e' := e.stp st
  have np : ¬ O p := e.dom.fresh hp
  have up : ∀ {v : V} {d : D}, Dr K O H v d → Dr K (fun a => O a ∨ a = p) H' v d := fun {v d} hd =>
    Dr.stay (fun a o hq n q => by
      rcases q with q | q
      · exact n q
      · rw [q, hp] at hq; cases hq) (fun b o n q => st.keep b o (e.nd n) q) d v hd
  have upA : ∀ {v : List V} {d : List D}, DrA K O H v d → DrA K (fun a => O a ∨ a = p) H' v d := fun {v d} hd =>
    DrA.stay (fun a o hq n q => by
      rcases q with q | q
      · exact n q
      · rw [q, hp] at hq; cases hq) (fun b o n q => st.keep b o (e.nd n) q) d v hd
  have nO : ¬ F.O0 p := fun q => np (e.sub p q)
  refine ⟨by rw [List.length_set, List.length_set]; exact e.len, fun j s q => ?_, fun j k d' e2 a q1 q2 q3 q4 => ?_, fun a h => .inl (e.sub a h), fun a h => ?_, fun a h n => ?_, e'.keep, fun a h => ?_⟩
  · rcases get_set q with ⟨rfl, e2, hl⟩ | ⟨hj, q⟩
    · cases e2
      exact ⟨.ref p, by rw [List.getElem?_set_self (by rw [e.len]; exact hl)], p, rfl, .inr rfl, nO, xs, ds, rfl, hp', h⟩
    · obtain ⟨w, h1, h2⟩ := e.slot j s q
      refine ⟨w, by rw [List.getElem?_set_ne (Ne.symm hj)]; exact h1, ?_⟩
      cases s with
      | fz d => exact up h2
      | dr => exact h2
      | ow d =>
        obtain ⟨a, rfl, h3, h4, ys, es, rfl, h5, h6⟩ := h2
        exact ⟨a, rfl, .inl h3, h4, ys, es, rfl, st.keep _ _ (e.ndo h4) h5, upA h6⟩
  · have fresh : ∀ {m : Nat} {f : D}, ρ[m]? = some (some (.ow f)) → σ[m]? = some (some (.ref p)) → False := fun {m f} h1 h2 => by
      obtain ⟨w, g1, b, rfl, g2, _, ys, es, rfl, g3, _⟩ := e.slot m _ h1
      rw [h2] at g1
      cases g1
      rw [hp] at g3; cases g3
    have hlen : ∀ {m : Nat}, m = i → m < ρ.length → (σ.set i (some (V.ref p)))[m]? = some (some (V.ref p)) := fun {m} hm hl => by
      rw [hm, List.getElem?_set_self (by rw [e.len, ← hm]; exact hl)]
    rcases get_set q1 with ⟨ej, e3, hl⟩ | ⟨hj, q1⟩
    · rcases get_set q2 with ⟨ek, e4, _⟩ | ⟨hk, q2⟩
      · rw [ej, ek]
      · rw [hlen ej (by rw [ej]; exact hl)] at q3
        cases q3
        rw [List.getElem?_set_ne (Ne.symm hk)] at q4
        exact (fresh q2 q4).elim
    · rcases get_set q2 with ⟨ek, e4, hl⟩ | ⟨hk, q2⟩
      · rw [hlen ek (by rw [ek]; exact hl)] at q4
        cases q4
        rw [List.getElem?_set_ne (Ne.symm hj)] at q3
        exact (fresh q1 q3).elim
      · rw [List.getElem?_set_ne (Ne.symm hj)] at q3
        rw [List.getElem?_set_ne (Ne.symm hk)] at q4
        exact e.sep j k d' e2 a q1 q2 q3 q4
  · rcases h with h | rfl
    · exact e'.dom a h
    · exact ⟨_, hp'⟩
  · rcases h with h | rfl
    · exact e.unp a h n
    · cases q : F.H0 a with
      | none => rfl
      | some o =>
        by_cases hd : F.dA = some a
        · exact absurd (e.drw a hd).1 n
        · rw [e.keep a o hd q] at hp; cases hp
  · obtain ⟨h1, cells, i', cur, seed, g1, g2, g3, g4⟩ := e'.drw a h
    refine ⟨h1, cells, i', cur, seed, g1, g2, fun q => ?_, g4⟩
    rcases q with q | q
    · exact g3 q
    · obtain ⟨_, cells0, i0, cur0, seed0, k1, k2, _⟩ := e.drw a h
      rw [q, hp] at k2; cases k2
/-- a list of the frame's own changes -/
theorem EnvR.mut (e : EnvR K F O H σ ρ) {i : Nat} {a : Addr} {d : D} {xs : List V} {ds : List D} (hi : ρ[i]? = some (some (.ow d))) (hs : σ[i]? = some (some (.ref a))) (h : DrA K O H xs ds) :
    EnvR K F O (upd H a (.lst xs)) σ (ρ.set i (some (.ow (.list ds)))) := by
  obtain ⟨v, h1, a', rfl, h2, h3, xs0, ds0, rfl, h4, h5⟩ := e.slot i _ hi
  rw [hs] at h1
  cases h1
  have kp : ∀ b o, ¬ O b → H b = some o → (upd H a (.lst xs)) b = some o := fun b o n q => by
    rw [upd_ne (fun z => n (by rw [z]; exact h2))]
    exact q
  have up : ∀ {v : V} {d : D}, Dr K O H v d → Dr K O (upd H a (.lst xs)) v d := fun {v d} hd => Dr.stay (fun _ _ _ n => n) kp d v hd
  have upA : ∀ {v : List V} {d : List D}, DrA K O H v d → DrA K O (upd H a (.lst xs)) v d := fun {v d} hd => DrA.stay (fun _ _ _ n => n) kp d v hd
  have nda : F.dA ≠ some a := e.ndo h3
  refine ⟨by rw [List.length_set]; exact e.len, fun j s q => ?_, fun j k d' e2 b q1 q2 q3 q4 => ?_, e.sub, fun b hb => ?_, e.unp, fun b o n hb => ?_, fun b hb => ?_⟩
  · rcases get_set q with ⟨rfl, e2, hl⟩ | ⟨hj, q⟩
    · cases e2
      exact ⟨.ref a, hs, a, rfl, h2, h3, xs, ds, rfl, upd_same, upA h⟩
    · obtain ⟨w, g1, g2⟩ := e.slot j s q
      refine ⟨w, g1, ?_⟩
      cases s with
      | fz d => exact up g2
      | dr => exact g2
      | ow d =>
        obtain ⟨b, rfl, g3, g4, ys, es, rfl, g5, g6⟩ := g2
        have nb : b ≠ a := fun z => hj (by
          subst z
          exact e.sep j i _ _ b q hi g1 hs)
        exact ⟨b, rfl, g3, g4, ys, es, rfl, by rw [upd_ne nb]; exact g5, upA g6⟩
  · have back : ∀ {m : Nat} {f : D}, (ρ.set i (some (.ow (.list ds))))[m]? = some (some (.ow f)) → ∃ f', ρ[m]? = some (some (.ow f')) := fun {m f} hm => by
      rcases get_set hm with ⟨rfl, _, _⟩ | ⟨_, q⟩
      · exact ⟨_, hi⟩
      · exact ⟨_, q⟩
    obtain ⟨f1, q1⟩ := back q1
    obtain ⟨f2, q2⟩ := back q2
    exact e.sep j k f1 f2 b q1 q2 q3 q4
  · by_cases hba : b = a
    · subst hba; exact ⟨_, upd_same⟩
    · rw [upd_ne hba]; exact e.dom b hb
  · have hba : b ≠ a := fun z => by
      rw [z, e.unp a h2 h3] at hb; cases hb
    rw [upd_ne hba]
    exact e.keep b o n hb
  · obtain ⟨g1, cells, i', cur, seed, k1, k2, k3, k4⟩ := e.drw b hb
    have nb : b ≠ a := fun z => nda (by rw [← z]; exact hb)
    have nc : F.dC ≠ a := fun z => k3 (by rw [z]; exact h2)
    exact ⟨g1, cells, i', cur, seed, by rw [upd_ne nb]; exact k1, by rw [upd_ne nc]; exact k2, k3, k4⟩
/-- a list of the frame's own is changed no more -/
theorem EnvR.freeze (e : EnvR K F O H σ ρ) {i : Nat} {d : D} (hi : ρ[i]? = some (some (.ow d))) : ∃ a, σ[i]? = some (some (.ref a)) ∧ EnvR K F (fun b => O b ∧ b ≠ a) H σ (ρ.set i (some (.fz d))) := by
  obtain ⟨v, h1, a, rfl, h2, h3, xs0, ds0, rfl, h4, h5⟩ := e.slot i _ hi
  have up : ∀ {v : V} {d : D}, Dr K O H v d → Dr K (fun b => O b ∧ b ≠ a) H v d := fun {v d} hd => Dr.stay (fun _ _ _ n q => n q.1) (fun _ _ _ q => q) d v hd
  have upA : ∀ {v : List V} {d : List D}, DrA K O H v d → DrA K (fun b => O b ∧ b ≠ a) H v d := fun {v d} hd => DrA.stay (fun _ _ _ n q => n q.1) (fun _ _ _ q => q) d v hd
  refine ⟨a, h1, by rw [List.length_set]; exact e.len, fun j s q => ?_, fun j k d' e2 b q1 q2 q3 q4 => ?_, fun b hb => ⟨e.sub b hb, fun z => h3 (by rw [← z]; exact hb)⟩, fun b hb => e.dom b hb.1, fun b hb n => e.unp b hb.1 n, e.keep, fun b hb => ?_⟩
  · rcases get_set q with ⟨rfl, e2, hl⟩ | ⟨hj, q⟩
    · cases e2
      exact ⟨.ref a, h1, .lst h4 (fun z => z.2 rfl) (upA h5)⟩
    · obtain ⟨w, g1, g2⟩ := e.slot j s q
      refine ⟨w, g1, ?_⟩
      cases s with
      | fz d => exact up g2
      | dr => exact g2
      | ow d =>
        obtain ⟨b, rfl, g3, g4, ys, es, rfl, g5, g6⟩ := g2
        exact ⟨b, rfl, ⟨g3, fun z => hj (by
          subst z
          exact e.sep j i _ _ b q hi g1 h1)⟩, g4, ys, es, rfl, g5, upA g6⟩
  · rcases get_set q1 with ⟨_, e3, _⟩ | ⟨_, q1⟩
    · cases e3
    rcases get_set q2 with ⟨_, e3, _⟩ | ⟨_, q2⟩
    · cases e3
    exact e.sep j k d' e2 b q1 q2 q3 q4
  · obtain ⟨g1, cells, i', cur, seed, k1, k2, k3, k4⟩ := e.drw b hb
    exact ⟨g1, cells, i', cur, seed, k1, k2, fun q => k3 q.1, k4⟩
/-- a loop's turns: what stands at its start is kept through it -/
noncomputable def cutH (F : Fm) (O : Addr → Prop) (H : Hp) : Hp := fun b => open Classical in if O b ∧ ¬ F.O0 b then none else H b
theorem cutH_none {b : Addr} (h : O b ∧ ¬ F.O0 b) : cutH F O H b = none := by unfold cutH; rw [if_pos h]
theorem cutH_some {b : Addr} (h : ¬ (O b ∧ ¬ F.O0 b)) : cutH F O H b = H b := by unfold cutH; rw [if_neg h]
theorem of_cutH {b : Addr} {o : HO} (h : cutH F O H b = some o) : H b = some o := by
  by_cases c : O b ∧ ¬ F.O0 b
  · rw [cutH_none c] at h; cases h
  · rw [cutH_some c] at h; exact h
noncomputable def Fm.at (F : Fm) (O : Addr → Prop) (H : Hp) : Fm := { F with H0 := cutH F O H }
theorem EnvR.into (e : EnvR K F O H σ ρ) : EnvR K (F.at O H) O H σ ρ where
  len := e.len
  slot := fun i s q => by
    obtain ⟨v, h1, h2⟩ := e.slot i s q
    exact ⟨v, h1, by cases s <;> exact h2⟩
  sep := e.sep
  sub := e.sub
  dom := e.dom
  unp := fun a h n => cutH_none ⟨h, n⟩
  keep := fun b o n h => of_cutH h
  drw := e.drw
theorem EnvR.back {σ' : L2.St} {ρ' : Rho} (e : EnvR K F O H σ ρ) (e' : EnvR K (F.at O H) O' H' σ' ρ') : EnvR K F O' H' σ' ρ' where
  len := e'.len
  slot := fun i s q => by
    obtain ⟨v, h1, h2⟩ := e'.slot i s q
    exact ⟨v, h1, by cases s <;> exact h2⟩
  sep := e'.sep
  sub := e'.sub
  dom := e'.dom
  unp := fun a h n => by
    have h1 : cutH F O H a = none := e'.unp a h n
    by_cases c : O a ∧ ¬ F.O0 a
    · exact e.unp a c.1 c.2
    · rw [cutH_some c] at h1
      cases q : F.H0 a with
      | none => rfl
      | some o =>
        by_cases hd : F.dA = some a
        · exact absurd (e.drw a hd).1 n
        · rw [e.keep a o hd q] at h1; cases h1
  keep := fun b o n h => e'.keep b o n (by
    show cutH F O H b = some o
    rw [cutH_some (fun c => by rw [e.unp b c.1 c.2] at h; cases h)]
    exact e.keep b o n h)
  drw := e'.drw
/-- what stood at the loop's start and was nobody's own stands in each turn -/
theorem EnvR.stood {σ' : L2.St} {ρ' : Rho} (e : EnvR K F O H σ ρ) (e' : EnvR K (F.at O H) O' H' σ' ρ') {b : Addr} {o : HO} (n : ¬ O b) (h : H b = some o) : ¬ O' b ∧ H' b = some o := by
  have h0 : (F.at O H).H0 b = some o := by
    show cutH F O H b = some o
    rw [cutH_some (fun c => n c.1)]
    exact h
  have nO : ¬ F.O0 b := fun q => n (e.sub b q)
  refine ⟨fun q => ?_, e'.keep b o (e.nd n) h0⟩
  have := e'.unp b q nO
  rw [h0] at this; cases this
theorem DrA.stood {σ' : L2.St} {ρ' : Rho} {vs : List V} {ds : List D} (e : EnvR K F O H σ ρ) (e' : EnvR K (F.at O H) O' H' σ' ρ') (h : DrA K O H vs ds) : DrA K O' H' vs ds :=
  DrA.stay (fun a o q n => (e.stood e' n q).1) (fun b o n q => (e.stood e' n q).2) ds vs h
end
end DL

set_option Elab.async false
set_option linter.all false
set_option maxRecDepth 100000
set_option maxHeartbeats 4000000
namespace DL
open PySem PySem.Spec PyProof.Rows L2

/-! ### subscripts, slices, truth -/
def R2A (K : PySem.W.Frag) (f : D → D → (D → Prop) → Prop) : R2 := fun x y H Q => ∃ N O d e, Dom O H ∧ BDr K N O H x d ∧ BDr K N O H y e ∧ ∃ P, f d e P ∧ ∀ r, P r → Ans K O H Q r
def dSub1 : D → D → (D → Prop) → Prop
  | .list ds, .int i, Q => optQ (atI ds i) Q
  | .tuple ds, .int i, Q => optQ (atI ds i) Q
  | .str z, .int i, Q => z.length ≤ sizeLine ∧ optQ (atI z.cps.toList i) fun c => Q (.str ⟨#[c]⟩)
  | _, _, _ => False
theorem DrA.atI {K : PySem.W.Frag} {O : Addr → Prop} {H : Hp} {xs : List V} {ds : List D} {i : Int} {d : D} (h : DrA K O H xs ds) (e : L2.atI ds i = some d) : ∃ v, L2.atI xs i = some v ∧ Dr K O H v d := by
  unfold L2.atI at e ⊢
  rw [h.length]
  cases q : ixN ds.length i with
  | none => rw [q] at e; cases e
  | some j =>
    rw [q] at e
    exact h.at (show ds[j]? = some d from e)
section
variable {X : Cx}
theorem ix_d : IxR X (R2A X.K dSub1) := by
  intro value slice pins s σ H x y v u Q I rx ry h hs
  obtain ⟨N, O, d, e, dm, hx, hy, P, q, hP⟩ := h
  unfold dSub1 at q
  split at q
  · obtain ⟨r, e1, q⟩ := optQ_iff q
    obtain ⟨a, xs, rfl, h1, h2⟩ := hx.lst
    rw [hy.int] at ry
    obtain ⟨w, e2, h3⟩ := h2.atI e1
    exact ix_list value slice pins s σ H _ _ v u Q I rx ry ⟨a, xs, _, w, rfl, rfl, SqL.of h1, e2, hP _ q _ _ (Same.refl H) h3⟩ hs
  · obtain ⟨r, e1, q⟩ := optQ_iff q
    obtain ⟨a, xs, rfl, h1, h2⟩ := hx.tup
    rw [hy.int] at ry
    obtain ⟨w, e2, h3⟩ := h2.atI e1
    exact ix_tup value slice pins s σ H _ _ v u Q I rx ry ⟨a, xs, _, w, rfl, rfl, h1, e2, hP _ q _ _ (Same.refl H) h3⟩ hs
  · obtain ⟨h0, q⟩ := q
    obtain ⟨r, e1, q⟩ := optQ_iff q
    rw [hx.str] at rx
    rw [hy.int] at ry
    exact ix_str value slice pins s σ H _ _ v u Q I rx ry ⟨_, _, r, rfl, rfl, h0, e1, hP _ q _ _ (Same.refl H) (.str _)⟩ hs
  · exact q.elim
def cutL {α : Type} (xs : List α) (lo hi : Option Int) : List α := (xs.drop (HT.sIx xs.length 0 lo)).take (HT.sIx xs.length xs.length hi - HT.sIx xs.length 0 lo)
theorem cutV_eq (xs : List V) (lo hi : Option Int) : cutV xs lo hi = cutL xs lo hi := rfl
theorem DrA.cut {K : PySem.W.Frag} {O : Addr → Prop} {H : Hp} {xs : List V} {ds : List D} (h : DrA K O H xs ds) (lo hi : Option Int) : DrA K O H (cutL xs lo hi) (cutL ds lo hi) := by
  unfold cutL
  rw [h.length]
  exact (h.drop _).take _
def dCut : D → Option Int → Option Int → (D → Prop) → Prop
  | .list ds, lo, hi, Q => Q (.list (cutL ds lo hi))
  | .tuple ds, lo, hi, Q => Q (.tuple (cutL ds lo hi))
  | .str z, lo, hi, Q => z.length ≤ sizeLine ∧ Q (.str (cutS z lo hi))
  | _, _, _, _ => False
def RSD (K : PySem.W.Frag) : V → Option Int → Option Int → Hp → VK → Prop := fun x lo hi H Q => ∃ N O d, Dom O H ∧ BDr K N O H x d ∧ ∃ P, dCut d lo hi P ∧ ∀ r, P r → AnsF K O H Q r
theorem cut_whole {ds : List D} {lo hi : Option Int} (h1 : HT.sIx ds.length 0 lo = 0) (h2 : HT.sIx ds.length ds.length hi = ds.length) : cutL ds lo hi = ds := by
  unfold cutL
  rw [h1, h2, List.drop_zero, Nat.sub_zero, List.take_length]
theorem sl_d : SlR X (RSD X.K) := by
  intro pins s σ H x v vl vu lo hi sl Q I rx hs pl pu h
  obtain ⟨N, O, d, dm, hx, P, q, hP⟩ := h
  unfold dCut at q
  split at q
  · obtain ⟨a, xs, rfl, h1, h2⟩ := hx.lst
    exact sl_list pins s σ H _ v vl vu _ _ sl Q I rx hs pl pu ⟨a, xs, rfl, SqL.of h1, (hP _ q).lst dm (h2.cut _ _)⟩
  · have hd := hx.tupDr
    obtain ⟨a, xs, rfl, h1, h2⟩ := hx.tup
    refine sl_tupA pins s σ H _ v vl vu _ _ sl Q I rx hs pl pu ⟨a, xs, rfl, h1, fun w => ?_, fun _ => (hP _ q).tup dm (h2.cut _ _)⟩
    rw [h2.length] at w
    rw [cut_whole w.1 w.2] at q
    exact (hP _ q).same hd fun _ => nofun
  · rw [hx.str] at rx
    exact sl_str pins s σ H _ v vl vu _ _ sl Q I rx hs pl pu ⟨_, rfl, q.1, (hP _ q.2).str⟩
  · exact q.elim
/-! truth -/
def truD : D → Option Bool
  | .none => some false
  | .bool b => some b
  | .int i => some (i != 0)
  | .str z => if z.length ≤ sizeLine then some ((z.length : Int) != 0) else none
  | .list ds => some (!ds.isEmpty)
  | .tuple ds => some (!ds.isEmpty)
  | .dict _ => none
theorem DrA.empty {K : PySem.W.Frag} {O : Addr → Prop} {H : Hp} {xs : List V} {ds : List D} (h : DrA K O H xs ds) : xs.isEmpty = ds.isEmpty := by
  cases h <;> rfl
theorem tru_d {K : PySem.W.Frag} {N : Addr → Prop} {O : Addr → Prop} {H : Hp} {v : V} {d : D} {c : Bool} (h : BDr K N O H v d) (e : truD d = some c) : TruV K v H c := by
  cases d with
  | none => rw [h.non]; exact (Option.some.inj e).symm
  | bool b => rw [h.bl]; exact (Option.some.inj e).symm
  | int i => rw [h.int]; exact (Option.some.inj e).symm
  | str z =>
    rw [h.str]
    have e' : (if z.length ≤ sizeLine then some ((z.length : Int) != 0) else none) = some c := e
    by_cases hz : z.length ≤ sizeLine
    · rw [if_pos hz] at e'
      exact ⟨hz, (Option.some.inj e').symm⟩
    · rw [if_neg hz] at e'
      cases e'
  | list ds =>
    obtain ⟨a, xs, rfl, h1, h2⟩ := h.lst
    exact .inl ⟨xs, SqL.of h1, by rw [h2.empty]; exact (Option.some.inj e).symm⟩
  | tuple ds =>
    obtain ⟨a, xs, rfl, h1, h2⟩ := h.tup
    exact .inr (.inl ⟨xs, h1, by rw [h2.empty]; exact (Option.some.inj e).symm⟩)
  | dict _ => cases e
end

/-! ### what is walked -/
/-- J gives the data ds, in all states that R allows -/
def Wk (K : PySem.W.Frag) (R : (Addr → Prop) → Hp → Prop) (J : It) (ds : List D) : Prop :=
  ∃ (G : Hp → Prop) (Y : Nat → Hp → V → Hp → Prop), Walk J ds.length G Y ∧ (∀ O' H', R O' H' → G H') ∧
    ∀ O' H' i x H'', R O' H' → Dom O' H' → i < ds.length → Y i H' x H'' → Same H' H'' ∧ ∃ d, ds[i]? = some d ∧ Dr K O' H'' x d
section
variable {K : PySem.W.Frag} {R : (Addr → Prop) → Hp → Prop} {a b : Addr} {xs ys : List V} {ds es : List D}
theorem wk_list (h1 : ∀ O' H', R O' H' → SqL K H' a xs) (h2 : ∀ O' H', R O' H' → DrA K O' H' xs ds) (hl : xs.length = ds.length) : Wk K R (Itl K a) ds := by
  refine ⟨fun H => SqL K H a xs, YAt xs, by rw [← hl]; exact walk_list, h1, fun O' H' i x H'' r dm hi y => ?_⟩
  obtain ⟨rfl, e⟩ := y
  obtain ⟨d, e2, h3⟩ := (h2 O' _ r).get e
  exact ⟨Same.refl _, d, e2, h3⟩
theorem wk_tup (h1 : ∀ O' H', R O' H' → SqT K H' a xs) (h2 : ∀ O' H', R O' H' → DrA K O' H' xs ds) (hl : xs.length = ds.length) : Wk K R (Itt K a) ds := by
  refine ⟨fun H => SqT K H a xs, YAt xs, by rw [← hl]; exact walk_tup, h1, fun O' H' i x H'' r dm hi y => ?_⟩
  obtain ⟨rfl, e⟩ := y
  obtain ⟨d, e2, h3⟩ := (h2 O' _ r).get e
  exact ⟨Same.refl _, d, e2, h3⟩
def rangeD (lo : Int) (n : Nat) : List D := (List.range n).map fun (i : Nat) => PyData.int (lo + i)
theorem wk_range {lo : Int} {n : Nat} : Wk K R (Itr lo n) (rangeD lo n) := by
  refine ⟨fun _ => True, YFn fun i => .int (lo + i), by unfold rangeD; rw [List.length_map, List.length_range]; exact walk_range, fun _ _ _ => trivial, fun O' H' i x H'' r dm hi y => ?_⟩
  obtain ⟨rfl, rfl⟩ := y
  refine ⟨Same.refl _, .int (lo + i), ?_, .int _⟩
  unfold rangeD at hi ⊢
  rw [List.length_map, List.length_range] at hi
  rw [List.getElem?_map, List.getElem?_range hi]
  rfl
theorem dr_pair {O : Addr → Prop} {H : Hp} {T : Addr} {x y : V} {d e : D} (dm : Dom O H) (hT : H T = none) (h1 : Dr K O H x d) (h2 : Dr K O H y e) : Same H (upd H T (.tup [x, y])) ∧ Dr K O (upd H T (.tup [x, y])) (.ref T) (.tuple [d, e]) :=
  ⟨same_upd hT, .tup (.inl ⟨upd_same, dm.fresh hT⟩) (.cons (h1.same (same_upd hT)) (.cons (h2.same (same_upd hT)) .nil))⟩
def enumD (ds : List D) : List D := (rangeD 0 ds.length).zipWith (fun i d => PyData.tuple [i, d]) ds
theorem enumD_length (ds : List D) : (enumD ds).length = ds.length := by unfold enumD rangeD; simp
theorem enumD_get {ds : List D} {i : Nat} {d : D} (h : ds[i]? = some d) : (enumD ds)[i]? = some (.tuple [.int i, d]) := by
  have hi : i < ds.length := (List.getElem?_eq_some_iff.mp h).1
  unfold enumD rangeD
  rw [List.getElem?_zipWith, List.getElem?_map, List.getElem?_range hi, h]
  simp
theorem wk_enum (h1 : ∀ O' H', R O' H' → SqL K H' a xs) (h2 : ∀ O' H', R O' H' → DrA K O' H' xs ds) (hl : xs.length = ds.length) : Wk K R (Ite K a) (enumD ds) := by
  refine ⟨fun H => SqL K H a xs, _, by rw [enumD_length, ← hl]; exact walk_enum, h1, fun O' H' i x H'' r dm hi y => ?_⟩
  obtain ⟨T, u, v, rfl, hT, rfl, e1, e2⟩ := y
  cases e1
  obtain ⟨d, e3, h3⟩ := (h2 O' _ r).get e2
  obtain ⟨p1, p2⟩ := dr_pair dm hT (.int (i : Nat)) h3
  exact ⟨p1, _, enumD_get e3, p2⟩
def zipD (ds es : List D) : List D := ds.zipWith (fun a b => PyData.tuple [a, b]) es
theorem zipD_get {ds es : List D} {i : Nat} {d e : D} (h : ds[i]? = some d) (h2 : es[i]? = some e) : (zipD ds es)[i]? = some (.tuple [d, e]) := by
  unfold zipD
  rw [List.getElem?_zipWith, h, h2]
theorem wk_zipL (h1 : ∀ O' H', R O' H' → SqL K H' a xs) (h2 : ∀ O' H', R O' H' → DrA K O' H' xs ds) (hl : xs.length = ds.length) (g1 : ∀ O' H', R O' H' → SqL K H' b ys) (g2 : ∀ O' H', R O' H' → DrA K O' H' ys es) (gl : ys.length = es.length) :
    Wk K R (Itz K a b) (zipD ds es) := by
  refine ⟨fun H => SqL K H a xs ∧ SqL K H b ys, _, walk_zip (by unfold zipD; rw [List.length_zipWith, hl, gl]), fun O' H' r => ⟨h1 O' H' r, g1 O' H' r⟩, fun O' H' i x H'' r dm hi y => ?_⟩
  obtain ⟨T, u, v, rfl, hT, rfl, e1, e2⟩ := y
  obtain ⟨d, e3, h3⟩ := (h2 O' _ r).get e1
  obtain ⟨e, e4, h4⟩ := (g2 O' _ r).get e2
  obtain ⟨p1, p2⟩ := dr_pair dm hT h3 h4
  exact ⟨p1, _, zipD_get e3 e4, p2⟩
end
end DL

set_option Elab.async false
set_option linter.all false
set_option maxRecDepth 100000
set_option maxHeartbeats 4000000
namespace DL
open PySem PySem.Spec PyProof.Rows L2

/-! ### more operators, and all of them by their sign -/
def dIn (neg : Bool) : D → D → (D → Prop) → Prop
  | d, .list ds, Q => shp d ∧ shp (.list ds) ∧ Q (.bool (if neg then !(ds.any fun z => PyData.eqv z d) else ds.any fun z => PyData.eqv z d))
  | d, .tuple ds, Q => shp d ∧ shp (.tuple ds) ∧ Q (.bool (if neg then !(ds.any fun z => PyData.eqv z d) else ds.any fun z => PyData.eqv z d))
  | _, _, _ => False
def dNeg : D → (D → Prop) → Prop
  | .int i, Q => Q (.int (-i))
  | _, _ => False
def opF : Operator → D → D → (D → Prop) → Prop
  | .Add => dAdd
  | .Sub => dSub
  | .Mult => dMul
  | .Mod => dMod
  | .FloorDiv => dDiv
  | _ => fun _ _ _ => False
def cmpF : CmpOp → D → D → (D → Prop) → Prop
  | .Eq => dEq
  | .NotEq => dNe
  | .Lt => dLt
  | .LtE => dLe
  | .Gt => dGt
  | .GtE => dGe
  | .Is => dIs
  | .IsNot => dIsnt
  | .In => dIn false
  | .NotIn => dIn true
section
variable {X : Cx}
theorem op_dIn (hu : X.A.units + 65 < cLine) : OpR X (compareOp .In) (R2D X.K (dIn false)) := by
  intro pins s σ H x y v u Q I rx ry h
  obtain ⟨N, O, d, e, dm, hx, hy, P, q, hP⟩ := h
  obtain ⟨as, r1⟩ := Dp.reads I d x v hx.dp rx
  obtain ⟨bs, r2⟩ := Dp.reads I e y u hy.dp ry
  unfold dIn at q
  split at q
  · exact SeqAt.in_list_reads r2 r1 (SeqAt.canLay_of_shaped q.2.1) (SeqAt.canLay_of_shaped q.1) (room_in_shaped q.1 hu) ⟨.bl _, H, I, rfl, (hP _ q.2.2).bl⟩
  · exact SeqAt.in_tuple_reads r2 r1 (SeqAt.canLay_of_shaped q.2.1) (SeqAt.canLay_of_shaped q.1) (room_in_shaped q.1 hu) ⟨.bl _, H, I, rfl, (hP _ q.2.2).bl⟩
  · exact q.elim
theorem op_dNotIn (hu : X.A.units + 65 < cLine) : OpR X (compareOp .NotIn) (R2D X.K (dIn true)) := by
  intro pins s σ H x y v u Q I rx ry h
  obtain ⟨N, O, d, e, dm, hx, hy, P, q, hP⟩ := h
  obtain ⟨as, r1⟩ := Dp.reads I d x v hx.dp rx
  obtain ⟨bs, r2⟩ := Dp.reads I e y u hy.dp ry
  unfold dIn at q
  split at q
  · exact SeqAt.notIn_list_reads r2 r1 (SeqAt.canLay_of_shaped q.2.1) (SeqAt.canLay_of_shaped q.1) (room_in_shaped q.1 hu) ⟨.bl _, H, I, rfl, (hP _ q.2.2).bl⟩
  · exact SeqAt.notIn_tuple_reads r2 r1 (SeqAt.canLay_of_shaped q.2.1) (SeqAt.canLay_of_shaped q.1) (room_in_shaped q.1 hu) ⟨.bl _, H, I, rfl, (hP _ q.2.2).bl⟩
  · exact q.elim
theorem op_F (op : Operator) : OpR X (binaryOp op) (R2D X.K (opF op)) := by
  have no : OpR X (binaryOp op) (R2D X.K fun _ _ _ => False) := by
    intro pins s σ H x y v u Q I rx ry h
    obtain ⟨N, O, d, e, dm, hx, hy, P, q, hP⟩ := h
    exact q.elim
  cases op with
  | Add => exact op_dAdd
  | Sub => exact op_dSub
  | Mult => exact op_dMul
  | Mod => exact op_dMod
  | FloorDiv => exact op_dDiv
  | _ => exact no
theorem cmp_F (hu : X.A.units + 65 < cLine) (op : CmpOp) : OpR X (compareOp op) (R2D X.K (cmpF op)) := by
  cases op with
  | Eq => exact op_dEq (by omega)
  | NotEq => exact op_dNe (by omega)
  | Lt => exact op_dLt
  | LtE => exact op_dLe
  | Gt => exact op_dGt
  | GtE => exact op_dGe
  | Is => exact op_dIs
  | IsNot => exact op_dIsnt
  | In => exact op_dIn hu
  | NotIn => exact op_dNotIn hu
def R1D (K : PySem.W.Frag) (f : D → (D → Prop) → Prop) : V → Hp → VK → Prop := fun x H Q => ∃ N O d, Dom O H ∧ BDr K N O H x d ∧ ∃ P, f d P ∧ ∀ r, P r → AnsF K O H Q r
theorem un_dNeg : UnR X (unaryOp .USub) (R1D X.K dNeg) := by
  intro pins s σ H x v Q I rx h
  obtain ⟨N, O, d, dm, hx, P, q, hP⟩ := h
  unfold dNeg at q
  split at q
  · rw [hx.int] at rx
    exact un_neg pins s σ H _ v Q I rx ⟨_, rfl, (hP _ q).int⟩
  · exact q.elim
end
/-- a comparison's answer is a truth value -/
theorem cmpF_bool {op : CmpOp} {x y : D} {P : D → Prop} (h : cmpF op x y P) : cmpF op x y fun r => P r ∧ ∃ b, r = .bool b := by
  cases op with
  | Eq => exact ⟨h.1, h.2.1, h.2.2, _, rfl⟩
  | NotEq => exact ⟨h.1, h.2.1, h.2.2, _, rfl⟩
  | In =>
    have h : dIn false x y P := h
    show dIn false x y _
    cases y with
    | list ds => exact ⟨h.1, h.2.1, h.2.2, _, rfl⟩
    | tuple ds => exact ⟨h.1, h.2.1, h.2.2, _, rfl⟩
    | _ => exact h.elim
  | NotIn =>
    have h : dIn true x y P := h
    show dIn true x y _
    cases y with
    | list ds => exact ⟨h.1, h.2.1, h.2.2, _, rfl⟩
    | tuple ds => exact ⟨h.1, h.2.1, h.2.2, _, rfl⟩
    | _ => exact h.elim
  | _ => cases x <;> cases y <;> first | exact h.elim | exact ⟨h, _, rfl⟩

/-! ### the grammar -/
inductive Bi where
  | len | tuple | list | sum | any | all | abs | min | max | int | str | gcd | sorted
  deriving DecidableEq
def Bi.nm : Bi → Str
  | .len => "len" | .tuple => "tuple" | .list => "list" | .sum => "sum" | .any => "any" | .all => "all" | .abs => "abs" | .min => "min" | .max => "max" | .int => "int" | .str => "str" | .gcd => "gcd" | .sorted => "sorted"
def Bi.fd : Bi → FD
  | .len => dLen | .tuple => dTuple | .list => dList | .sum => dSum | .any => dAny | .all => dAll | .abs => dAbs | .min => dMin2 | .max => dMax2 | .int => dInt | .str => dStr | .gcd => dGcd | .sorted => dSorted
mutual
inductive Tg where
  | n (i : Nat)
  | t (ts : Tgs)
inductive Tgs where
  | nil
  | cons (t : Tg) (ts : Tgs)
end
mutual
inductive Ex where
  | v (i : Nat) | b (i : Nat)
  | int (i : Int) | bl (b : Bool) | non | str (s : Str)
  | g (x : Str)
  | bin (op : Operator) (a b : Ex)
  | neg (a : Ex)
  | cmp (op : CmpOp) (a b : Ex)
  | chain (op op' : CmpOp) (a b c : Ex)
  | and (a b : Ex) | or (a b : Ex) | not (a : Ex)
  | ite (t a b : Ex)
  | tup (es : Exs) | lst (es : Exs)
  | sub (a i : Ex)
  | cut (a : Ex) (lo hi : Eo)
  | bi (b : Bi) (es : Exs)
  | isi (a : Ex) (T : String)
  | call (f : Str) (es : Exs)
  | comp (own : List (Str × Nat)) (elt : Ex) (tg : Tg) (it : Ir) (ifs : Eo)
  | comp2 (own : List (Str × Nat)) (elt : Ex) (tg : Tg) (it : Ir) (ifs : Eo) (tg1 : Tg) (it1 : Ir) (ifs1 : Eo)
  | setlen (e : Ex)
  | dead
inductive Exs where
  | nil
  | cons (e : Ex) (es : Exs)
  | dr (i : Nat) (es : Exs)
inductive Eo where
  | no
  | so (e : Ex)
inductive Ir where
  | seq (e : Ex)
  | rng (es : Exs)
  | enum (e : Ex)
  | zip (a b : Ex)
end

/-! ### the meaning, over data -/
abbrev Fns := Str → List Sl → (D → Prop) → (Str → Prop) → Prop
structure Gam where
  Φ : Fns
  gl : List (Str × D)
  fs : List Str
  exs : List Str
def fzs : List Sl → Option (List D)
  | [] => some []
  | .fz d :: r => (fzs r).map (d :: ·)
  | _ => none
/-- a turn after another -/
def foldW (step : D → List D → (List D → Prop) → Prop) : List D → List D → (List D → Prop) → Prop
  | [], acc, Q => Q acc
  | d :: ds, acc, Q => step d acc fun acc' => foldW step ds acc' Q
mutual
def bindT : Tg → D → Rho → (Rho → Prop) → Prop
  | .n i, d, ρ, Q => Q (ρ.set i (some (.fz d)))
  | .t ts, d, ρ, Q => match d with
    | .tuple ds => ds.length = tgsLen ts ∧ bindTs ts ds ρ Q
    | _ => False
def bindTs : Tgs → List D → Rho → (Rho → Prop) → Prop
  | .nil, ds, ρ, Q => ds = [] ∧ Q ρ
  | .cons t ts, ds, ρ, Q => match ds with
    | d :: r => bindT t d ρ fun ρ' => bindTs ts r ρ' Q
    | [] => False
def tgsLen : Tgs → Nat
  | .nil => 0
  | .cons _ ts => tgsLen ts + 1
end
def wipeR (ρ : Rho) : List Nat → Rho
  | [] => ρ
  | v :: vs => (wipeR ρ vs).set v none
def seqOf : D → (List D → Prop) → Prop
  | .list ds, P => P ds
  | .tuple ds, P => P ds
  | _, _ => False
def rngOk (i : Int) : Prop := -(2 ^ 62) ≤ i ∧ i < 2 ^ 62
def rngW : List D → (List D → Prop) → Prop
  | [.int j], P => rngOk j ∧ P (rangeD 0 j.toNat)
  | [.int i, .int j], P => rngOk i ∧ rngOk j ∧ P (rangeD i (j - i).toNat)
  | _, _ => False
def enumW : D → (List D → Prop) → Prop
  | .list ds, P => P (enumD ds)
  | _, _ => False
def zipW : D → D → (List D → Prop) → Prop
  | .list ds, .list es, P => P (zipD ds es)
  | .tuple ds, .tuple es, P => P (zipD ds es)
  | _, _, _ => False
mutual
def slotsT : Tg → List Nat
  | .n i => [i]
  | .t ts => slotsTs ts
def slotsTs : Tgs → List Nat
  | .nil => []
  | .cons t ts => slotsT t ++ slotsTs ts
end
/-- how many different numbers -/
def dstI (ns : List Int) : Int := ((PyProof.Rows.firstMet (fun i => ns.getD i 0) ns.length).length : Nat)
def setlenW : D → (D → Prop) → Prop
  | .list ds, P => optQ (intsOf ds) fun ns => ns.length ≤ 4000 ∧ P (.int (dstI ns))
  | _, _ => False
abbrev nE : Str → Prop := fun _ => False
mutual
def wpE (Γ : Gam) : Ex → Rho → (D → Prop) → (Str → Prop) → Prop
  | .v i, ρ, P, _ => match ρ[i]? with
    | some (some (.fz d)) => P d
    | _ => False
  | .b i, ρ, P, _ => match ρ[i]? with
    | some (some (.fz d)) => P d
    | some (some (.ow d)) => P d
    | _ => False
  | .int i, _, P, _ => P (.int i)
  | .bl b, _, P, _ => P (.bool b)
  | .non, _, P, _ => P .none
  | .str s, _, P, _ => P (.str s)
  | .g x, _, P, _ => optQ (Γ.gl.lookup x) P
  | .bin op a b, ρ, P, E => wpE Γ a ρ (fun x => wpE Γ b ρ (fun y => opF op x y P) E) E
  | .neg a, ρ, P, E => wpE Γ a ρ (fun x => dNeg x P) E
  | .cmp op a b, ρ, P, E => wpE Γ a ρ (fun x => wpE Γ b ρ (fun y => cmpF op x y P) E) E
  | .chain op op' a b c, ρ, P, E => wpE Γ a ρ (fun x => wpE Γ b ρ (fun y => cmpF op x y fun r => match r with
      | .bool true => wpE Γ c ρ (fun z => cmpF op' y z P) E
      | .bool false => P (.bool false)
      | _ => False) E) E
  | .and a b, ρ, P, E => wpE Γ a ρ (fun x => optQ (truD x) fun c => if c = true then wpE Γ b ρ P E else P x) E
  | .or a b, ρ, P, E => wpE Γ a ρ (fun x => optQ (truD x) fun c => if c = true then P x else wpE Γ b ρ P E) E
  | .not a, ρ, P, E => wpE Γ a ρ (fun x => optQ (truD x) fun c => P (.bool (!c))) E
  | .ite t a b, ρ, P, E => wpE Γ t ρ (fun x => optQ (truD x) fun c => if c = true then wpE Γ a ρ P E else wpE Γ b ρ P E) E
  | .tup es, ρ, P, E => wpX Γ es ρ (fun ss => optQ (fzs ss) fun ds => P (.tuple ds)) E
  | .lst es, ρ, P, E => wpX Γ es ρ (fun ss => optQ (fzs ss) fun ds => P (.list ds)) E
  | .sub a i, ρ, P, E => wpE Γ a ρ (fun x => wpE Γ i ρ (fun y => dSub1 x y P) E) E
  | .cut a lo hi, ρ, P, E => wpE Γ a ρ (fun x => wpO Γ lo ρ (fun l => wpO Γ hi ρ (fun h => dCut x l h P) E) E) E
  | .bi b es, ρ, P, E => wpX Γ es ρ (fun ss => optQ (fzs ss) fun ds => b.fd ds P) E
  | .isi a T, ρ, P, E => wpE Γ a ρ (fun x => P (.bool (isiD T x))) E
  | .call f es, ρ, P, E => wpX Γ es ρ (fun ss => Γ.Φ f ss P E) E
  | .comp own elt tg it ifs, ρ, P, E => wpI Γ it ρ (fun ds => ds.length ≤ sizeLine ∧ foldW (fun d acc k => bindT tg d (wipeR ρ (own.map (·.2))) fun ρ1 =>
      wpC Γ ifs ρ1 (fun c => if c = true then wpE Γ elt ρ1 (fun y => k (acc ++ [y])) nE else k acc) nE) ds [] fun acc => P (.list acc)) E
  | .comp2 own elt tg it ifs tg1 it1 ifs1, ρ, P, E => wpI Γ it ρ (fun ds => foldW (fun d acc k => bindT tg d (wipeR ρ (own.map (·.2))) fun ρ1 =>
      wpC Γ ifs ρ1 (fun c => if c = true then wpI Γ it1 ρ1 (fun es => foldW (fun e acc k => bindT tg1 e (wipeR ρ1 (slotsT tg1)) fun ρ2 =>
        wpC Γ ifs1 ρ2 (fun c => if c = true then wpE Γ elt ρ2 (fun y => acc.length < sizeLine ∧ k (acc ++ [y])) nE else k acc) nE) es acc k) nE else k acc) nE) ds [] fun acc => P (.list acc)) E
  | .setlen e, ρ, P, E => wpE Γ e ρ (fun d => setlenW d P) E
  | .dead, _, _, _ => False
def wpX (Γ : Gam) : Exs → Rho → (List Sl → Prop) → (Str → Prop) → Prop
  | .nil, _, P, _ => P []
  | .cons e es, ρ, P, E => wpE Γ e ρ (fun d => wpX Γ es ρ (fun ss => P (.fz d :: ss)) E) E
  | .dr i es, ρ, P, E => match ρ[i]? with
    | some (some .dr) => wpX Γ es ρ (fun ss => P (.dr :: ss)) E
    | _ => False
def wpO (Γ : Gam) : Eo → Rho → (Option Int → Prop) → (Str → Prop) → Prop
  | .no, _, P, _ => P none
  | .so e, ρ, P, E => wpE Γ e ρ (fun d => match d with
    | .int i => P (some i)
    | _ => False) E
def wpC (Γ : Gam) : Eo → Rho → (Bool → Prop) → (Str → Prop) → Prop
  | .no, _, P, _ => P true
  | .so e, ρ, P, E => wpE Γ e ρ (fun d => optQ (truD d) P) E
def wpI (Γ : Gam) : Ir → Rho → (List D → Prop) → (Str → Prop) → Prop
  | .seq e, ρ, P, E => wpE Γ e ρ (fun d => seqOf d P) E
  | .rng es, ρ, P, E => wpX Γ es ρ (fun ss => optQ (fzs ss) fun ds => rngW ds P) E
  | .enum e, ρ, P, E => wpE Γ e ρ (fun d => enumW d P) E
  | .zip a b, ρ, P, E => wpE Γ a ρ (fun x => wpE Γ b ρ (fun y => zipW x y P) E) E
end
end DL

set_option Elab.async false
set_option linter.all false
set_option maxRecDepth 100000
set_option maxHeartbeats 4000000
namespace DL
open PySem PySem.Spec PyProof.Rows L2

/-! ### a def's promise over data; what holds of the program -/
def spF (K : PySem.W.Frag) (ec : Str → Value) (φ : List Sl → (D → Prop) → (Str → Prop) → Prop) : Sp := fun vs H Q E =>
  ∃ (O : Addr → Prop) (dA : Option Addr) (dC : Addr) (as : List Sl) (P : D → Prop) (PE : Str → Prop), Dom O H ∧ (∀ a, dA = some a → O a ∧ DrawOk K O H a dC) ∧ Paired (SlotR K ⟨O, dA, dC, H⟩ O H) vs as ∧ φ as P PE ∧
    (∀ d, P d → ∀ v H', Stp K ⟨O, dA, dC, H⟩ O H H' → Dr K O H' v d → Q v H') ∧ ∀ x, PE x → ∀ H', Stp K ⟨O, dA, dC, H⟩ O H H' → E (ec x) none H'
structure Glb where
  P : Program
  w : World
  K : PySem.W.Frag
  mg : Str → Option Value
  base : Heap
  k : Nat
  Γ : Gam
  ec : Str → Value
structure FnIn (G : Glb) (f : Str) (φ : List Sl → (D → Prop) → (Str → Prop) → Prop) : Prop where
  ex : ∃ (a : Addr) (fd : FuncData) (ps : List Str), G.mg f = some (.ref a) ∧ PySem.W.keepIn G.K (.ref a) = true ∧ Binds G.K fd ps [] ∧ FnOk G.P G.w G.K G.mg G.base (L2.CX G.P G.w) G.k a fd ps (spF G.K G.ec φ)
structure GOk (G : Glb) : Prop where
  fn : ∀ f ∈ G.Γ.fs, FnIn G f (G.Γ.Φ f)
  bi : ∀ b : Bi, b ≠ .gcd → G.mg b.nm = none
  gcd : G.mg "gcd" = some (.builtin "math.gcd")
  rng : G.mg "range" = none
  enm : G.mg "enumerate" = none
  zip : G.mg "zip" = none
  isi : G.mg "isinstance" = none
  bool : G.mg "bool" = none
  set : G.mg "set" = none
  gl : ∀ (x : Str) (d : D), G.Γ.gl.lookup x = some d → ∃ u v, G.mg x = some u ∧ RelV v u ∧ Dr G.K (fun _ => False) (fun _ => none) v d
/-- the program's own exceptions (no __init__ of their own) -/
structure ExIn (G : Glb) (x : Str) (C : Addr) : Prop where
  mg : G.mg x = some (.ref C)
  ec : G.ec x = .ref C
  ex : PySem.W.excIn G.K C [.type "ValueError", .type "Exception", .type "BaseException", .type "object"] "ValueError.__new__" = true
  kp : PySem.W.keepIn G.K (.ref C) = true
  sub : PySem.W.subIn G.K (.ref C) (.type "BaseException") = some true
  ty : PySem.W.typeIn G.K (.ref C) = some (.type "type")
structure EOk (G : Glb) : Prop where
  ex : ∀ x ∈ G.Γ.exs, ∃ C, ExIn G x C
  one : ∀ x ∈ G.Γ.exs, ∀ y ∈ G.Γ.exs, PySem.W.exmOne G.K (G.ec x) (G.ec y) = some (decide (x = y))
structure XOk (G : Glb) (X : Cx) : Prop where
  prog : X.prog = G.P
  w : X.w = G.w
  K : X.K = G.K
  mg : X.mg = G.mg
  base : X.base = G.base
  calm : X.calm = true
  room : Room G.k X.A
  nd : X.N.Nodup
theorem XOk.hu {G : Glb} {X : Cx} (o : XOk G X) : X.A.units + 66 < cLine := by
  have := o.room.un
  omega

/-! ### what the grammar must be: checked by computing -/
structure Sx where
  N : List Str
  sc : Scope
  fn : Str → Bool
def visB (sc : Scope) (x : Str) : Bool := match sc.names.lookup x with
  | some .local => true
  | some .cell => true
  | some .free => true
  | _ => false
def glB (sc : Scope) (x : Str) : Bool := match sc.names.lookup x with
  | some .globalImplicit => !(x == ("__debug__" : Str))
  | _ => false
def locB (S : Sx) (x : Str) : Bool := match S.sc.names.lookup x with
  | some .local => true
  | some .cell => S.fn x
  | _ => false
def nmB (x : Str) : Bool := !(x == ("__debug__" : Str)) && !(x == ("__classdict__" : Str))
mutual
def mtT (S : Sx) : Tg → Expr → Bool
  | .n i, .Name x _ => decide (S.N[i]? = some x) && locB S x
  | .t ts, .Tuple es _ _ => mtTs S ts es
  | _, _ => false
def mtTs (S : Sx) : Tgs → List Expr → Bool
  | .nil, [] => true
  | .cons t ts, e :: es => mtT S t e && mtTs S ts es
  | _, _ => false
end
def isTup : Tg → Bool
  | .t _ => true
  | _ => false
/-- the value may be kept -/
def nb : Ex → Bool
  | .b _ => false
  | .ite _ a b => nb a && nb b
  | .and a b => nb a && nb b
  | .or a b => nb a && nb b
  | _ => true
def nbX : Exs → Bool
  | .nil => true
  | .cons e es => nb e && nbX es
  | .dr _ es => nbX es
def nodr : Exs → Bool
  | .nil => true
  | .cons _ es => nodr es
  | .dr _ _ => false
def lenX : Exs → Nat
  | .nil => 0
  | .cons _ es => lenX es + 1
  | .dr _ es => lenX es + 1
/-- a list that comes is new -/
def frs : Ex → Bool
  | .bin _ _ _ => true
  | .lst _ => true
  | .cut _ _ _ => true
  | .bi _ _ => true
  | .comp _ _ _ _ _ => true
  | .comp2 _ _ _ _ _ _ _ _ => true
  | _ => false
def nbI : Ir → Bool
  | .seq e => nb e
  | .rng _ => true
  | .enum e => nb e
  | .zip a b => nb a && nb b
def isCmp : Expr → Bool
  | .ListComp .. => true
  | .SetComp .. => true
  | .DictComp .. => true
  | _ => false
/-- a test by its value's truth -/
def plainT : Expr → Bool
  | .UnaryOp .Not _ _ => false
  | .BoolOp .. => false
  | .IfExp .. => false
  | .Compare .. => false
  | _ => true
def inFs (Γ : Gam) (f : Str) : Bool := Γ.fs.any fun g => decide (g = f)
def blkS (S : Sx) (scope : Scope) : Sx := ⟨S.N, relS scope S.sc, fun x => scope.names.lookup x == some .cell⟩
mutual
/-- no conditional expression where a test stands -/
def tstB : Expr → Bool
  | .IfExp .. => false
  | .UnaryOp .Not e _ => tstB e
  | .BoolOp _ es _ => tstsB es
  | _ => true
def tstsB : List Expr → Bool
  | [] => true
  | e :: es => tstB e && tstsB es
end
mutual
def mtE (Γ : Gam) (S : Sx) : Ex → Expr → Bool
  | .v i, .Name x _ => decide (S.N[i]? = some x) && visB S.sc x && nmB x
  | .b i, .Name x _ => decide (S.N[i]? = some x) && visB S.sc x && nmB x
  | .int i, .Constant (.int j) _ _ => decide (i = j)
  | .bl b, .Constant (.bool c) _ _ => b == c
  | .non, .Constant .none _ _ => true
  | .str s, .Constant (.str t) _ _ => decide (s = t)
  | .g y, .Name x _ => decide (x = y) && (Γ.gl.lookup x).isSome && glB S.sc x
  | .bin op a b, .BinOp ea op' eb _ => decide (op = op') && mtE Γ S a ea && mtE Γ S b eb
  | .neg a, .UnaryOp .USub ea _ => mtE Γ S a ea
  | .cmp op a b, .Compare ea [op'] [eb] _ => decide (op = op') && mtE Γ S a ea && mtE Γ S b eb
  | .chain op op2 a b c, .Compare ea [op', op2'] [eb, ec] _ => decide (op = op') && decide (op2 = op2') && mtE Γ S a ea && mtE Γ S b eb && mtE Γ S c ec
  | .and a b, .BoolOp .And (ea :: eb :: r) pos => mtE Γ S a ea && (match r with
    | [] => mtE Γ S b eb
    | c :: r' => mtE Γ S b (.BoolOp .And (eb :: c :: r') pos))
  | .or a b, .BoolOp .Or (ea :: eb :: r) pos => mtE Γ S a ea && (match r with
    | [] => mtE Γ S b eb
    | c :: r' => mtE Γ S b (.BoolOp .Or (eb :: c :: r') pos))
  | .not a, .UnaryOp .Not ea _ => mtE Γ S a ea
  | .ite t a b, .IfExp et ea eb _ => mtE Γ S t et && tstB et && mtE Γ S a ea && mtE Γ S b eb
  | .tup es, .Tuple as _ _ => mtX Γ S es as && nbX es && nodr es && decide (lenX es ≤ 1000)
  | .lst es, .List as _ => mtX Γ S es as && nbX es && nodr es && decide (lenX es ≤ 1000)
  | .sub a i, .Subscript ea ei _ => mtE Γ S a ea && mtE Γ S i ei
  | .cut a lo hi, .Subscript ea (.Slice l h none _) _ => mtE Γ S a ea && mtO Γ S lo l && mtO Γ S hi h
  | .bi b es, .Call (.Name x _) as [] _ => decide (x = b.nm) && glB S.sc x && mtX Γ S es as && nodr es && decide (0 < lenX es)
  | .isi a T, .Call (.Name x _) [ea, .Name y _] [] _ => decide (x = ("isinstance" : Str)) && glB S.sc x && mtE Γ S a ea && glB S.sc y &&
      ((decide (y = ("int" : Str)) && T == "int") || (decide (y = ("bool" : Str)) && T == "bool") || (decide (y = ("str" : Str)) && T == "str") || (decide (y = ("tuple" : Str)) && T == "tuple") || (decide (y = ("list" : Str)) && T == "list"))
  | .call f es, .Call (.Name x _) as [] _ => decide (x = f) && inFs Γ f && glB S.sc x && mtX Γ S es as && nbX es && decide (0 < lenX es)
  | .comp own elt tg it ifs, .ListComp x [⟨t, i, cs, n⟩] scope _ => decide (n = 0) && blkC S.N S.sc scope own && ((slotsT tg).all fun j => (own.map (·.2)).contains j) && mtT (blkS S scope) tg t && mtI Γ S (isTup tg) it i && mtE Γ (blkS S scope) elt x && nb elt && mtC Γ (blkS S scope) ifs cs
  | .comp2 own elt tg it ifs tg1 it1 ifs1, .ListComp x [⟨t, i, cs, n⟩, ⟨t1, i1, cs1, n1⟩] scope _ => decide (n = 0) && decide (n1 = 0) && blkC S.N S.sc scope own && ((slotsT tg).all fun j => (own.map (·.2)).contains j) && ((slotsT tg1).all fun j => (own.map (·.2)).contains j) && mtT (blkS S scope) tg t && mtI Γ S (isTup tg) it i && mtC Γ (blkS S scope) ifs cs &&
      mtT (blkS S scope) tg1 t1 && mtI Γ (blkS S scope) (isTup tg1) it1 i1 && nbI it1 && mtC Γ (blkS S scope) ifs1 cs1 && mtE Γ (blkS S scope) elt x && nb elt
  | .setlen a, .Call (.Name x _) [.Call (.Name y _) [ea] [] _] [] _ => decide (x = ("len" : Str)) && decide (y = ("set" : Str)) && glB S.sc x && glB S.sc y && mtE Γ S a ea
  | .dead, .Call _ _ _ _ => true
  | _, _ => false
def mtX (Γ : Gam) (S : Sx) : Exs → List Expr → Bool
  | .nil, [] => true
  | .cons a es, e :: as => mtE Γ S a e && mtX Γ S es as
  | .dr i es, e :: as => (match e with
    | .Name x _ => decide (S.N[i]? = some x) && visB S.sc x && nmB x
    | _ => false) && mtX Γ S es as
  | _, _ => false
def mtO (Γ : Gam) (S : Sx) : Eo → Option Expr → Bool
  | .no, none => true
  | .so a, some e => mtE Γ S a e
  | _, _ => false
def mtC (Γ : Gam) (S : Sx) : Eo → List Expr → Bool
  | .no, [] => true
  | .so a, [e] => mtE Γ S a e && tstB e
  | _, _ => false
def mtI (Γ : Gam) (S : Sx) (tup : Bool) : Ir → Expr → Bool
  | .seq a, e => mtE Γ S a e
  | .rng es, .Call (.Name x _) as [] _ => decide (x = ("range" : Str)) && glB S.sc x && mtX Γ S es as && nodr es && (lenX es == 1 || lenX es == 2)
  | .enum a, .Call (.Name x _) [e] [] _ => decide (x = ("enumerate" : Str)) && glB S.sc x && mtE Γ S a e && tup
  | .zip a b, .Call (.Name x _) [e, e'] [] _ => decide (x = ("zip" : Str)) && glB S.sc x && mtE Γ S a e && mtE Γ S b e' && tup
  | _, _ => false
end
end DL

set_option Elab.async false
set_option linter.all false
set_option maxRecDepth 100000
set_option maxHeartbeats 4000000
namespace DL
open PySem PySem.Spec PyProof.Rows L2

/-! ### readings -/
structure ResR (K : PySem.W.Frag) (F : Fm) (O : Addr → Prop) (H H' : Hp) (a : Ex) (v : V) (d : D) : Prop where
  b : BDr K F.O0 O H' v d
  n : nb a = true → Dr K O H' v d
  f : frs a = true → Fr1 K O H H' v d
def ArgR (K : PySem.W.Frag) (F : Fm) (O : Addr → Prop) (H : Hp) (n : Bool) (v : V) : Sl → Prop
  | .fz d => BDr K F.O0 O H v d ∧ (n = true → Dr K O H v d)
  | .dr => ∃ a, F.dA = some a ∧ v = .ref a
  | .ow _ => False
section
variable (K : PySem.W.Frag) (Γ : Gam) (ec : Str → Value) (W : WX)
def Er1 (F : Fm) (O : Addr → Prop) (H : Hp) (σ : L2.St) (E : Str → Prop) : Prop := ∀ x, E x → ∀ H', Stp K F O H H' → W (ec x) none σ H'
def tE (a : Ex) : TE := fun σ H Q => ∃ F O ρ P E, EnvR K F O H σ ρ ∧ wpE Γ a ρ P E ∧ (∀ d, P d → ∀ v H', Stp K F O H H' → ResR K F O H H' a v d → Q v H') ∧ Er1 K ec W F O H σ E
def tT (a : Ex) : TT := fun σ H Q => ∃ F O ρ P E, EnvR K F O H σ ρ ∧ wpE Γ a ρ P E ∧ (∀ d, P d → ∃ c, truD d = some c ∧ ∀ H', Stp K F O H H' → Q c H') ∧ Er1 K ec W F O H σ E
def tX (es : Exs) : TA := fun σ H Q => ∃ F O ρ P E, EnvR K F O H σ ρ ∧ wpX Γ es ρ P E ∧ (∀ ss, P ss → ∀ vs H', Stp K F O H H' → Paired (ArgR K F O H' (nbX es)) vs ss → vs.length = lenX es → Q vs H') ∧ Er1 K ec W F O H σ E
def tO (a : Eo) : TO := fun σ H Q => ∃ F O ρ P E, EnvR K F O H σ ρ ∧ wpO Γ a ρ P E ∧ (∀ l, P l → ∀ H', Stp K F O H H' → Q l H') ∧ Er1 K ec W F O H σ E
def tC (a : Eo) : TT := fun σ H Q => ∃ F O ρ P E, EnvR K F O H σ ρ ∧ wpC Γ a ρ P E ∧ (∀ c, P c → ∀ H', Stp K F O H H' → Q c H') ∧ Er1 K ec W F O H σ E
end
section
variable {K : PySem.W.Frag} {Γ : Gam} {ec : Str → Value} {W : WX} {F : Fm} {O : Addr → Prop} {H H' H1 : Hp} {σ : L2.St} {ρ : Rho} {E : Str → Prop}
theorem Er1.next (h : Er1 K ec W F O H σ E) (s : Stp K F O H H1) : Er1 K ec W F O H1 σ E := fun x e H' s' => h x e H' (s.trans s')
theorem Fr1.back {v : V} {d : D} (e : EnvR K F O H σ ρ) (s : Stp K F O H H1) (h : Fr1 K O H1 H' v d) : Fr1 K O H H' v d := fun ds q => by
  obtain ⟨p, xs, h1, h2, h3, h4⟩ := h ds q
  exact ⟨p, xs, h1, s.free e h2, h3, h4⟩
/-- a value-level step at the end of an expression -/
theorem ansF_of {a : Ex} {P : D → Prop} {Q : VK} (e : EnvR K F O H σ ρ) (s : Stp K F O H H1) (hP : ∀ d, P d → ∀ v H', Stp K F O H H' → ResR K F O H H' a v d → Q v H') : ∀ r, P r → AnsF K O H1 Q r :=
  fun r hr v H2 sm dr fr => hP r hr v H2 (s.trans (Stp.same (e.stp s) sm)) ⟨.inl dr, fun _ => dr, fun _ => fr.back e s⟩
theorem ans_of {a : Ex} {P : D → Prop} {Q : VK} (e : EnvR K F O H σ ρ) (s : Stp K F O H H1) (hf : frs a = false) (hP : ∀ d, P d → ∀ v H', Stp K F O H H' → ResR K F O H H' a v d → Q v H') : ∀ r, P r → Ans K O H1 Q r :=
  fun r hr v H2 sm dr => hP r hr v H2 (s.trans (Stp.same (e.stp s) sm)) ⟨.inl dr, fun _ => dr, fun h => by rw [hf] at h; cases h⟩
theorem res_dr {a : Ex} {v : V} {d : D} (h : Dr K O H v d) (hf : frs a = false ∨ ∀ ds, d ≠ .list ds) : ResR K F O H' H a v d :=
  ⟨.inl h, fun _ => h, fun q => by
    rcases hf with hf | hf
    · rw [hf] at q; cases q
    · exact .no hf⟩
theorem args_stp {n : Bool} {vs : List V} {ss : List Sl} (e : EnvR K F O H σ ρ) (s : Stp K F O H H1) (h : Paired (ArgR K F O H n) vs ss) : Paired (ArgR K F O H1 n) vs ss := by
  induction h with
  | nil => exact .nil
  | @cons v sl vs ss h1 _ ih =>
    refine .cons ?_ ih
    cases sl with
    | fz d => exact ⟨h1.1.stp e s, fun q => (h1.2 q).stp e s⟩
    | dr => exact h1
    | ow d => exact h1
theorem args_bdr {n : Bool} {vs : List V} {ss : List Sl} {ds : List D} (h : Paired (ArgR K F O H n) vs ss) : fzs ss = some ds → BDrA K F.O0 O H vs ds := by
  induction h generalizing ds with
  | nil => intro e; simp [fzs] at e; subst e; exact .nil
  | @cons v sl vs ss h1 _ ih =>
    intro e
    cases sl with
    | fz d =>
      simp only [fzs, Option.map_eq_some_iff] at e
      obtain ⟨r, e1, rfl⟩ := e
      exact .cons h1.1 (ih e1)
    | _ => simp [fzs] at e
theorem args_dr {vs : List V} {ss : List Sl} {ds : List D} (h : Paired (ArgR K F O H true) vs ss) : fzs ss = some ds → DrA K O H vs ds := by
  induction h generalizing ds with
  | nil => intro e; simp [fzs] at e; subst e; exact .nil
  | @cons v sl vs ss h1 _ ih =>
    intro e
    cases sl with
    | fz d =>
      simp only [fzs, Option.map_eq_some_iff] at e
      obtain ⟨r, e1, rfl⟩ := e
      exact .cons (h1.2 rfl) (ih e1)
    | _ => simp [fzs] at e
theorem Paired.len {α β : Type} {R : α → β → Prop} {xs : List α} {ys : List β} (h : Paired R xs ys) : xs.length = ys.length := by
  induction h with
  | nil => rfl
  | cons _ _ ih => exact congrArg (· + 1) ih
theorem fzs_len : ∀ {ss : List Sl} {ds : List D}, fzs ss = some ds → ss.length = ds.length
  | [], ds, e => by simp [fzs] at e; subst e; rfl
  | s :: ss, ds, e => by
    cases s with
    | fz d =>
      simp only [fzs, Option.map_eq_some_iff] at e
      obtain ⟨r, e1, rfl⟩ := e
      exact congrArg (· + 1) (fzs_len e1)
    | _ => simp [fzs] at e
end

section
variable {X : Cx} {Γ : Gam} {ec : Str → Value} {W : WX} {a b c t : Ex} {ea eb ec' et : Expr} {pos : Pos}
theorem PE.conseq {e : Expr} {t t' : TE} (h : PE X e t) (i : ∀ σ H Q, t' σ H Q → t σ H Q) : PE X e t' := ⟨fun pins s σ H Q I w => h.run pins s σ H Q I (i σ H Q w)⟩
theorem PT.conseq {e : Expr} {t t' : TT} (h : PT X e t) (i : ∀ σ H Q, t' σ H Q → t σ H Q) : PT X e t' := ⟨fun pins s σ H Q I w => h.run pins s σ H Q I (i σ H Q w)⟩
theorem PW.conseq {e : Expr} {t t' : TT} (h : PW X e t) (i : ∀ σ H Q, t' σ H Q → t σ H Q) : PW X e t' := ⟨fun wh pins s σ H Q I w => h.run wh pins s σ H Q I (i σ H Q w)⟩
theorem PA.conseq {e : List Expr} {t t' : TA} (h : PA X e t) (i : ∀ σ H Q, t' σ H Q → t σ H Q) : PA X e t' := ⟨fun p pins s σ H Q I w => h.run p pins s σ H Q I (i σ H Q w)⟩

abbrev SE (X : Cx) (Γ : Gam) (ec : Str → Value) (W : WX) (a : Ex) (e : Expr) : Prop := PE X e (tE X.K Γ ec W a)
abbrev SA (X : Cx) (Γ : Gam) (ec : Str → Value) (W : WX) (a : Exs) (e : List Expr) : Prop := PA X e (tX X.K Γ ec W a)

/-! names and constants -/
theorem snd_v {i : Nat} {x : Str} (hN : X.N[i]? = some x) (hv : Vis X.env.scope x) (hd : (x == ("__debug__" : Str)) = false) (hcd : (x == ("__classdict__" : Str)) = false) : SE X Γ ec W (.v i) (.Name x pos) := by
  refine PE.conseq (pe_var hN hv hd hcd) fun σ H Q h => ?_
  obtain ⟨F, O, ρ, P, E, e, w, hP, hE⟩ := h
  unfold wpE at w
  split at w
  · rename_i d hi
    obtain ⟨v, h1, h2⟩ := e.fz hi
    exact ⟨v, h1, hP _ w v H (Stp.refl e) (res_dr h2 (.inl rfl))⟩
  · exact w.elim
theorem snd_b {i : Nat} {x : Str} (hN : X.N[i]? = some x) (hv : Vis X.env.scope x) (hd : (x == ("__debug__" : Str)) = false) (hcd : (x == ("__classdict__" : Str)) = false) : SE X Γ ec W (.b i) (.Name x pos) := by
  refine PE.conseq (pe_var hN hv hd hcd) fun σ H Q h => ?_
  obtain ⟨F, O, ρ, P, E, e, w, hP, hE⟩ := h
  unfold wpE at w
  split at w
  · rename_i d hi
    obtain ⟨v, h1, h2⟩ := e.fz hi
    exact ⟨v, h1, hP _ w v H (Stp.refl e) (res_dr h2 (.inl rfl))⟩
  · rename_i d hi
    obtain ⟨v, h1, h2⟩ := e.owB hi
    exact ⟨v, h1, hP _ w v H (Stp.refl e) ⟨h2, fun q => by simp [nb] at q, fun q => by simp [frs] at q⟩⟩
  · exact w.elim
theorem snd_int {i : Int} {j : Nat} : SE X Γ ec W (.int i) (.Constant (.int i) j pos) := PE.conseq pe_int fun σ H Q h => by
  obtain ⟨F, O, ρ, P, E, e, w, hP, hE⟩ := h
  exact hP _ w _ H (Stp.refl e) (res_dr (.int i) (.inl rfl))
theorem snd_bl {i : Bool} {j : Nat} : SE X Γ ec W (.bl i) (.Constant (.bool i) j pos) := PE.conseq pe_bl fun σ H Q h => by
  obtain ⟨F, O, ρ, P, E, e, w, hP, hE⟩ := h
  exact hP _ w _ H (Stp.refl e) (res_dr (.bl i) (.inl rfl))
theorem snd_non {j : Nat} : SE X Γ ec W .non (.Constant .none j pos) := PE.conseq pe_non fun σ H Q h => by
  obtain ⟨F, O, ρ, P, E, e, w, hP, hE⟩ := h
  exact hP _ w _ H (Stp.refl e) (res_dr .non (.inl rfl))
theorem snd_str {i : Str} {j : Nat} : SE X Γ ec W (.str i) (.Constant (.str i) j pos) := PE.conseq pe_str fun σ H Q h => by
  obtain ⟨F, O, ρ, P, E, e, w, hP, hE⟩ := h
  exact hP _ w _ H (Stp.refl e) (res_dr (.str i) (.inl rfl))
theorem snd_g {x : Str} {d : D} {u : Value} {v : V} (hk : Γ.gl.lookup x = some d) (hg : Gl X x) (hm : X.mg x = some u) (r : RelV v u) (hd : Dr X.K (fun _ => False) (fun _ => none) v d) (hdb : (x == ("__debug__" : Str)) = false) : SE X Γ ec W (.g x) (.Name x pos) :=
  PE.conseq (pe_glob hg hm r hdb) fun σ H Q h => by
    obtain ⟨F, O, ρ, P, E, e, w, hP, hE⟩ := h
    unfold wpE at w
    rw [hk] at w
    have w : P d := w
    exact hP _ w _ H (Stp.refl e) (res_dr (Dr.stay (fun _ _ q => by cases q) (fun _ _ _ q => by cases q) d v hd) (.inl rfl))
/-! operators -/
theorem snd_bin {op : Operator} (ha : SE X Γ ec W a ea) (hb : SE X Γ ec W b eb) : SE X Γ ec W (.bin op a b) (.BinOp ea op eb pos) := by
  refine PE.conseq (pe_op (op_F op) ha hb) fun σ H Q h => ?_
  obtain ⟨F, O, ρ, P, E, e, w, hP, hE⟩ := h
  unfold wpE at w
  refine ⟨F, O, ρ, _, E, e, w, fun x hx v H1 s1 r1 => ?_, hE⟩
  refine ⟨F, O, ρ, _, E, e.stp s1, hx, fun y hy u H2 s2 r2 => ?_, hE.next s1⟩
  exact ⟨F.O0, O, x, y, ((e.stp s1).stp s2).dom, r1.b.stp (e.stp s1) s2, r2.b, P, hy, ansF_of e (s1.trans s2) hP⟩
theorem snd_neg (ha : SE X Γ ec W a ea) : SE X Γ ec W (.neg a) (.UnaryOp .USub ea pos) := by
  refine PE.conseq (pe_un un_dNeg ha) fun σ H Q h => ?_
  obtain ⟨F, O, ρ, P, E, e, w, hP, hE⟩ := h
  unfold wpE at w
  refine ⟨F, O, ρ, _, E, e, w, fun x hx v H1 s1 r1 => ?_, hE⟩
  exact ⟨F.O0, O, x, (e.stp s1).dom, r1.b, P, hx, ansF_of e s1 hP⟩
theorem tE_cmp {op : CmpOp} {σ : L2.St} {H : Hp} {Q : VK} (h : tE X.K Γ ec W (.cmp op a b) σ H Q) : tOp (R2D X.K (cmpF op)) (tE X.K Γ ec W a) (tE X.K Γ ec W b) σ H Q := by
  obtain ⟨F, O, ρ, P, E, e, w, hP, hE⟩ := h
  unfold wpE at w
  refine ⟨F, O, ρ, _, E, e, w, fun x hx v H1 s1 r1 => ?_, hE⟩
  refine ⟨F, O, ρ, _, E, e.stp s1, hx, fun y hy u H2 s2 r2 => ?_, hE.next s1⟩
  exact ⟨F.O0, O, x, y, ((e.stp s1).stp s2).dom, r1.b.stp (e.stp s1) s2, r2.b, P, hy, ansF_of e (s1.trans s2) hP⟩
/-- a test whose value is a truth value -/
theorem tT_cmp {op : CmpOp} {σ : L2.St} {H : Hp} {Q : Bool → Hp → Prop} (h : tT X.K Γ ec W (.cmp op a b) σ H Q) : tTest (tOp (R2D X.K (cmpF op)) (tE X.K Γ ec W a) (tE X.K Γ ec W b)) σ H Q := by
  obtain ⟨F, O, ρ, P, E, e, w, hP, hE⟩ := h
  unfold wpE at w
  refine ⟨F, O, ρ, _, E, e, w, fun x hx v H1 s1 r1 => ?_, hE⟩
  refine ⟨F, O, ρ, _, E, e.stp s1, hx, fun y hy u H2 s2 r2 => ?_, hE.next s1⟩
  refine ⟨F.O0, O, x, y, ((e.stp s1).stp s2).dom, r1.b.stp (e.stp s1) s2, r2.b, _, cmpF_bool hy, fun r hr w H3 sm dr fr => ?_⟩
  obtain ⟨hr, k, rfl⟩ := hr
  obtain ⟨c, hc, q⟩ := hP _ hr
  cases hc
  cases dr
  exact ⟨_, rfl, q H3 ((s1.trans s2).trans (Stp.same ((e.stp s1).stp s2) sm))⟩
theorem snd_cmp {op : CmpOp} (hu : X.A.units + 66 < cLine) (ha : SE X Γ ec W a ea) (hb : SE X Γ ec W b eb) (hm : behindInMarks op eb = false) : SE X Γ ec W (.cmp op a b) (.Compare ea [op] [eb] pos) :=
  PE.conseq (pe_cmpR (cmp_F (by omega) op) ha hb hm) fun σ H Q h => tE_cmp h
theorem snt_cmp {op : CmpOp} (hu : X.A.units + 66 < cLine) (ha : SE X Γ ec W a ea) (hb : SE X Γ ec W b eb) (hm : behindInMarks op eb = false) : PT X (.Compare ea [op] [eb] pos) (tT X.K Γ ec W (.cmp op a b)) :=
  PT.conseq (pt_cmpR (cmp_F (by omega) op) ha hb hm) fun σ H Q h => tT_cmp h
/-! and, or, not, if -/
theorem snd_and {r : List Expr} (ha : SE X Γ ec W a ea) (hb : SE X Γ ec W b (.BoolOp .And (eb :: r) pos)) : SE X Γ ec W (.and a b) (.BoolOp .And (ea :: eb :: r) pos) := by
  refine PE.conseq (pe_andT ha hb) fun σ H Q h => ?_
  obtain ⟨F, O, ρ, P, E, e, w, hP, hE⟩ := h
  unfold wpE at w
  refine ⟨F, O, ρ, _, E, e, w, fun x hx v H1 s1 r1 => ?_, hE⟩
  obtain ⟨c, hc, q⟩ := optQ_iff hx
  refine ⟨c, tru_d r1.b hc, ?_⟩
  cases c with
  | true =>
    rw [if_pos rfl] at q ⊢
    refine ⟨F, O, ρ, P, E, e.stp s1, q, fun d hd u H2 s2 r2 => ?_, hE.next s1⟩
    exact hP d hd u H2 (s1.trans s2) ⟨r2.b, fun n => r2.n (by simp only [nb, Bool.and_eq_true] at n; exact n.2), fun n => (nomatch n)⟩
  | false =>
    rw [if_neg Bool.false_ne_true] at q ⊢
    exact hP x q v H1 s1 ⟨r1.b, fun n => r1.n (by simp only [nb, Bool.and_eq_true] at n; exact n.1), fun n => (nomatch n)⟩
theorem snd_or {r : List Expr} (ha : SE X Γ ec W a ea) (hb : SE X Γ ec W b (.BoolOp .Or (eb :: r) pos)) : SE X Γ ec W (.or a b) (.BoolOp .Or (ea :: eb :: r) pos) := by
  refine PE.conseq (pe_orT ha hb) fun σ H Q h => ?_
  obtain ⟨F, O, ρ, P, E, e, w, hP, hE⟩ := h
  unfold wpE at w
  refine ⟨F, O, ρ, _, E, e, w, fun x hx v H1 s1 r1 => ?_, hE⟩
  obtain ⟨c, hc, q⟩ := optQ_iff hx
  refine ⟨c, tru_d r1.b hc, ?_⟩
  cases c with
  | false =>
    rw [if_neg Bool.false_ne_true] at q ⊢
    refine ⟨F, O, ρ, P, E, e.stp s1, q, fun d hd u H2 s2 r2 => ?_, hE.next s1⟩
    exact hP d hd u H2 (s1.trans s2) ⟨r2.b, fun n => r2.n (by simp only [nb, Bool.and_eq_true] at n; exact n.2), fun n => (nomatch n)⟩
  | true =>
    rw [if_pos rfl] at q ⊢
    exact hP x q v H1 s1 ⟨r1.b, fun n => r1.n (by simp only [nb, Bool.and_eq_true] at n; exact n.1), fun n => (nomatch n)⟩
theorem snd_one {op : BoolOp} (ha : SE X Γ ec W a ea) : SE X Γ ec W a (.BoolOp op [ea] pos) := pe_one ha
theorem snd_not (ha : SE X Γ ec W a ea) : SE X Γ ec W (.not a) (.UnaryOp .Not ea pos) := by
  refine PE.conseq (pe_notT ha) fun σ H Q h => ?_
  obtain ⟨F, O, ρ, P, E, e, w, hP, hE⟩ := h
  unfold wpE at w
  refine ⟨F, O, ρ, _, E, e, w, fun x hx v H1 s1 r1 => ?_, hE⟩
  obtain ⟨c, hc, q⟩ := optQ_iff hx
  exact ⟨c, tru_d r1.b hc, hP _ q _ H1 s1 (res_dr (.bl _) (.inl rfl))⟩
theorem snd_ite (ht : PT X et (tT X.K Γ ec W t)) (ha : SE X Γ ec W a ea) (hb : SE X Γ ec W b eb) : SE X Γ ec W (.ite t a b) (.IfExp et ea eb pos) := by
  refine PE.conseq (pe_ifExp ht ha hb) fun σ H Q h => ?_
  obtain ⟨F, O, ρ, P, E, e, w, hP, hE⟩ := h
  unfold wpE at w
  refine ⟨F, O, ρ, _, E, e, w, fun x hx => ?_, hE⟩
  obtain ⟨c, hc, q⟩ := optQ_iff hx
  refine ⟨c, hc, fun H1 s1 => ?_⟩
  cases c with
  | true =>
    rw [if_pos rfl] at q ⊢
    refine ⟨F, O, ρ, P, E, e.stp s1, q, fun d hd u H2 s2 r2 => ?_, hE.next s1⟩
    exact hP d hd u H2 (s1.trans s2) ⟨r2.b, fun n => r2.n (by simp only [nb, Bool.and_eq_true] at n; exact n.1), fun n => (nomatch n)⟩
  | false =>
    rw [if_neg Bool.false_ne_true] at q ⊢
    refine ⟨F, O, ρ, P, E, e.stp s1, q, fun d hd u H2 s2 r2 => ?_, hE.next s1⟩
    exact hP d hd u H2 (s1.trans s2) ⟨r2.b, fun n => r2.n (by simp only [nb, Bool.and_eq_true] at n; exact n.2), fun n => (nomatch n)⟩
/-! tests -/
theorem snt_plain (ha : SE X Γ ec W a ea) (he : ∀ whole, isTrue ea X.env whole = (do let v ← whole; standAt ea.pos; holding [v] (truthy v))) : PT X ea (tT X.K Γ ec W a) := by
  refine PT.conseq (pt_truth ha he) fun σ H Q h => ?_
  obtain ⟨F, O, ρ, P, E, e, w, hP, hE⟩ := h
  refine ⟨F, O, ρ, P, E, e, w, fun d hd v H1 s1 r1 => ?_, hE⟩
  obtain ⟨c, hc, q⟩ := hP d hd
  exact ⟨c, tru_d r1.b hc, q H1 s1⟩
theorem snt_not (ha : PT X ea (tT X.K Γ ec W a)) : PT X (.UnaryOp .Not ea pos) (tT X.K Γ ec W (.not a)) := by
  refine PT.conseq (pt_not ha) fun σ H Q h => ?_
  obtain ⟨F, O, ρ, P, E, e, w, hP, hE⟩ := h
  unfold wpE at w
  refine ⟨F, O, ρ, _, E, e, w, fun x hx => ?_, hE⟩
  obtain ⟨c, hc, q⟩ := optQ_iff hx
  obtain ⟨c', hc', q'⟩ := hP _ q
  cases hc'
  exact ⟨c, hc, q'⟩
theorem tT_and {σ : L2.St} {H : Hp} {Q : Bool → Hp → Prop} (h : tT X.K Γ ec W (.and a b) σ H Q) : tAnd (tT X.K Γ ec W a) (tT X.K Γ ec W b) σ H Q := by
  obtain ⟨F, O, ρ, P, E, e, w, hP, hE⟩ := h
  unfold wpE at w
  refine ⟨F, O, ρ, _, E, e, w, fun x hx => ?_, hE⟩
  obtain ⟨c, hc, q⟩ := optQ_iff hx
  refine ⟨c, hc, fun H1 s1 => ?_⟩
  cases c with
  | true =>
    rw [if_pos rfl] at q ⊢
    refine ⟨F, O, ρ, P, E, e.stp s1, q, fun d hd => ?_, hE.next s1⟩
    obtain ⟨c', hc', q'⟩ := hP d hd
    exact ⟨c', hc', fun H2 s2 => q' H2 (s1.trans s2)⟩
  | false =>
    rw [if_neg Bool.false_ne_true] at q ⊢
    obtain ⟨c', hc', q'⟩ := hP x q
    rw [hc] at hc'
    cases hc'
    exact q' H1 s1
theorem tT_or {σ : L2.St} {H : Hp} {Q : Bool → Hp → Prop} (h : tT X.K Γ ec W (.or a b) σ H Q) : tOr (tT X.K Γ ec W a) (tT X.K Γ ec W b) σ H Q := by
  obtain ⟨F, O, ρ, P, E, e, w, hP, hE⟩ := h
  unfold wpE at w
  refine ⟨F, O, ρ, _, E, e, w, fun x hx => ?_, hE⟩
  obtain ⟨c, hc, q⟩ := optQ_iff hx
  refine ⟨c, hc, fun H1 s1 => ?_⟩
  cases c with
  | false =>
    rw [if_neg Bool.false_ne_true] at q ⊢
    refine ⟨F, O, ρ, P, E, e.stp s1, q, fun d hd => ?_, hE.next s1⟩
    obtain ⟨c', hc', q'⟩ := hP d hd
    exact ⟨c', hc', fun H2 s2 => q' H2 (s1.trans s2)⟩
  | true =>
    rw [if_pos rfl] at q ⊢
    obtain ⟨c', hc', q'⟩ := hP x q
    rw [hc] at hc'
    cases hc'
    exact q' H1 s1
/-! argument lists, displays -/
theorem sna_nil : SA X Γ ec W .nil [] := by
  refine PA.conseq pa_nil fun σ H Q h => ?_
  obtain ⟨F, O, ρ, P, E, e, w, hP, hE⟩ := h
  exact hP [] w [] H (Stp.refl e) .nil rfl
theorem sna_cons {es : Exs} {eas : List Expr} (ha : SE X Γ ec W a ea) (hr : SA X Γ ec W es eas) (hs : starEach (ea :: eas) X.env = (false, eval ea X.env) :: starEach eas X.env) : SA X Γ ec W (.cons a es) (ea :: eas) := by
  refine PA.conseq (pa_cons ha hr hs) fun σ H Q h => ?_
  obtain ⟨F, O, ρ, P, E, e, w, hP, hE⟩ := h
  unfold wpX at w
  refine ⟨F, O, ρ, _, E, e, w, fun x hx v H1 s1 r1 => ?_, hE⟩
  refine ⟨F, O, ρ, _, E, e.stp s1, hx, fun ss hss vs H2 s2 r2 l2 => ?_, hE.next s1⟩
  refine hP _ hss _ H2 (s1.trans s2) (.cons ⟨r1.b.stp (e.stp s1) s2, fun n => (r1.n (by simp only [nbX, Bool.and_eq_true] at n; exact n.1)).stp (e.stp s1) s2⟩ ?_) (by rw [List.length_cons, l2]; rfl)
  refine Paired.mapP r2 fun v sl q => ?_
  cases sl with
  | fz d => exact ⟨q.1, fun n => q.2 (by simp only [nbX, Bool.and_eq_true] at n; exact n.2)⟩
  | dr => exact q
  | ow d => exact q
theorem sna_dr {es : Exs} {eas : List Expr} {i : Nat} {x : Str} {p : Pos} (hN : X.N[i]? = some x) (hv : Vis X.env.scope x) (hd : (x == ("__debug__" : Str)) = false) (hcd : (x == ("__classdict__" : Str)) = false) (hr : SA X Γ ec W es eas) :
    SA X Γ ec W (.dr i es) (.Name x p :: eas) := by
  refine PA.conseq (pa_cons (pe_var hN hv hd hcd) hr rfl) fun σ H Q h => ?_
  obtain ⟨F, O, ρ, P, E, e, w, hP, hE⟩ := h
  unfold wpX at w
  split at w
  · rename_i hi
    obtain ⟨v, h1, h2⟩ := e.slot i _ hi
    refine ⟨v, h1, F, O, ρ, _, E, e, w, fun ss hss vs H2 s2 r2 l2 => ?_, hE⟩
    exact hP _ hss _ H2 s2 (.cons h2 r2) (by rw [List.length_cons, l2]; rfl)
  · exact w.elim
theorem wpX_len {es : Exs} {ρ : Rho} : ∀ {P : List Sl → Prop} {E : Str → Prop} {K : PySem.W.Frag} {F : Fm} {O : Addr → Prop} {H : Hp} {n : Bool} {vs : List V} {ss : List Sl}, Paired (ArgR K F O H n) vs ss → vs.length = ss.length := fun h => Paired.len h
theorem snd_tup {es : Exs} {eas : List Expr} {k : Nat} (ha : SA X Γ ec W es eas) (hn : nbX es = true) (h9 : lenX es ≤ 1000) : SE X Γ ec W (.tup es) (.Tuple eas k pos) := by
  refine PE.conseq (pe_tup ha) fun σ H Q h => ?_
  obtain ⟨F, O, ρ, P, E, e, w, hP, hE⟩ := h
  unfold wpE at w
  refine ⟨F, O, ρ, _, E, e, w, fun ss hss vs H1 s1 r1 hlen => ?_, hE⟩
  obtain ⟨ds, hds, q⟩ := optQ_iff hss
  rw [hn] at r1
  have hz : (1000 : Nat) ≤ sizeLine := by rw [sizeLine_eq]; decide
  refine ⟨by rw [hlen]; omega, ?_⟩
  exact (ansF_of (a := .tup es) e s1 hP _ q).tup (e.stp s1).dom (args_dr r1 hds)
theorem snd_lst {es : Exs} {eas : List Expr} (ha : SA X Γ ec W es eas) (hn : nbX es = true) (h9 : lenX es ≤ 1000) : SE X Γ ec W (.lst es) (.List eas pos) := by
  refine PE.conseq (pe_lst ha) fun σ H Q h => ?_
  obtain ⟨F, O, ρ, P, E, e, w, hP, hE⟩ := h
  unfold wpE at w
  refine ⟨F, O, ρ, _, E, e, w, fun ss hss vs H1 s1 r1 hlen => ?_, hE⟩
  obtain ⟨ds, hds, q⟩ := optQ_iff hss
  rw [hn] at r1
  have hz : (1000 : Nat) ≤ sizeLine := by rw [sizeLine_eq]; decide
  refine ⟨by rw [hlen]; omega, ?_⟩
  exact (ansF_of (a := .lst es) e s1 hP _ q).lst (e.stp s1).dom (args_dr r1 hds)
/-! subscripts, slices -/
theorem snd_sub (ha : SE X Γ ec W a ea) (hb : SE X Γ ec W b eb) (hs : PlainIx eb) : SE X Γ ec W (.sub a b) (.Subscript ea eb pos) := by
  refine PE.conseq (pe_ix ix_d ha hb hs) fun σ H Q h => ?_
  obtain ⟨F, O, ρ, P, E, e, w, hP, hE⟩ := h
  unfold wpE at w
  refine ⟨F, O, ρ, _, E, e, w, fun x hx v H1 s1 r1 => ?_, hE⟩
  refine ⟨F, O, ρ, _, E, e.stp s1, hx, fun y hy u H2 s2 r2 => ?_, hE.next s1⟩
  exact ⟨F.O0, O, x, y, ((e.stp s1).stp s2).dom, r1.b.stp (e.stp s1) s2, r2.b, P, hy, ans_of e (s1.trans s2) rfl hP⟩
theorem sno_no : PO X none (tO X.K Γ ec W .no) := ⟨fun pins s σ H Q I h => po_none.run pins s σ H Q I (by
  obtain ⟨F, O, ρ, P, E, e, w, hP, hE⟩ := h
  exact hP none w H (Stp.refl e))⟩
theorem sno_so (ha : SE X Γ ec W a ea) : PO X (some ea) (tO X.K Γ ec W (.so a)) := ⟨fun pins s σ H Q I h => (po_some ha).run pins s σ H Q I (by
  obtain ⟨F, O, ρ, P, E, e, w, hP, hE⟩ := h
  unfold wpO at w
  refine ⟨F, O, ρ, _, E, e, w, fun x hx v H1 s1 r1 => ?_, hE⟩
  cases x with
  | int i =>
    have hx' : P (some i) := hx
    exact ⟨i, r1.b.int, hP _ hx' H1 s1⟩
  | _ => exact hx.elim)⟩
theorem snd_cut {lo hi : Eo} {el eh : Option Expr} {p2 : Pos} (ha : SE X Γ ec W a ea) (hl : PO X el (tO X.K Γ ec W lo)) (hh : PO X eh (tO X.K Γ ec W hi)) : SE X Γ ec W (.cut a lo hi) (.Subscript ea (.Slice el eh none p2) pos) := by
  refine PE.conseq (pe_slice sl_d ha hl hh) fun σ H Q h => ?_
  obtain ⟨F, O, ρ, P, E, e, w, hP, hE⟩ := h
  unfold wpE at w
  refine ⟨F, O, ρ, _, E, e, w, fun x hx v H1 s1 r1 => ?_, hE⟩
  refine ⟨F, O, ρ, _, E, e.stp s1, hx, fun l hl H2 s2 => ?_, hE.next s1⟩
  refine ⟨F, O, ρ, _, E, (e.stp s1).stp s2, hl, fun u hu H3 s3 => ?_, (hE.next s1).next s2⟩
  exact ⟨F.O0, O, x, (((e.stp s1).stp s2).stp s3).dom, r1.b.stp (e.stp s1) (s2.trans s3), P, hu, ansF_of e (s1.trans (s2.trans s3)) hP⟩
end
end DL

set_option Elab.async false
set_option linter.all false
set_option maxRecDepth 100000
set_option maxHeartbeats 4000000
namespace DL
open PySem PySem.Spec PyProof.Rows L2

/-! ### shapes of the grammar -/
def starred : Expr → Bool
  | .Starred _ _ => true
  | _ => false
theorem star_cons {e : Expr} {es : List Expr} {env : Env} (h : starred e = false) : starEach (e :: es) env = (false, eval e env) :: starEach es env := by
  cases e <;> first | rfl | (simp [starred] at h)
theorem star_any {pos : Pos} {env : Env} : ∀ {es : List Expr}, es.all (fun e => !starred e) = true → (backTo pos (starEach es env)).any (·.1) = false
  | [], _ => rfl
  | e :: es, h => by
    rw [List.all_cons, Bool.and_eq_true] at h
    have h1 : starred e = false := by simpa using h.1
    have ih := star_any (pos := pos) (env := env) h.2
    rw [star_cons h1]
    show ((false, _) :: backTo pos (starEach es env)).any (·.1) = false
    rw [List.any_cons, ih]
    rfl
theorem assign_cons {e : Expr} {es : List Expr} {env : Env} (h : starred e = false) : assignEach (e :: es) env = (false, assign e env) :: assignEach es env := by
  cases e <;> first | rfl | (simp [starred] at h)
theorem mtE_star {Γ : Gam} {S : Sx} {a : Ex} {e : Expr} (h : mtE Γ S a e = true) : starred e = false := by
  cases e with
  | Starred v p => cases a <;> simp [mtE] at h
  | _ => rfl
def isSet : Expr → Bool
  | .Set _ _ _ => true
  | _ => false
theorem mtE_set {Γ : Gam} {S : Sx} {a : Ex} {e : Expr} (h : mtE Γ S a e = true) : isSet e = false := by
  cases e with
  | Set v k p => cases a <;> simp [mtE] at h
  | _ => rfl
theorem nomarkS {op : CmpOp} {e : Expr} (h : isSet e = false) : behindInMarks op e = false := by
  cases e <;> first | rfl | (simp [isSet] at h)
theorem foldS {e : Expr} {env : Env} (h : isSet e = false) (x : Value) : foldedSetIterable e env x = pure x := by
  cases e <;> first | rfl | (simp [isSet] at h)
def isSlice : Expr → Bool
  | .Slice _ _ _ _ => true
  | _ => false
theorem mtE_slice {Γ : Gam} {S : Sx} {a : Ex} {e : Expr} (h : mtE Γ S a e = true) : isSlice e = false := by
  cases e with
  | Slice l u s p => cases a <;> simp [mtE] at h
  | _ => rfl
theorem plainIx {e : Expr} (h : isSlice e = false) : PlainIx e := fun o i => by
  cases e <;> first | rfl | (simp [isSlice] at h)
theorem plainTe {e : Expr} {env : Env} (h : plainT e = true) : ∀ whole, isTrue e env whole = (do let v ← whole; standAt e.pos; holding [v] (truthy v)) := fun whole => by
  cases e with
  | UnaryOp op x p => cases op <;> first | rfl | exact absurd h (by simp [plainT])
  | BoolOp _ _ _ => exact absurd h (by simp [plainT])
  | IfExp _ _ _ _ => exact absurd h (by simp [plainT])
  | Compare _ _ _ _ => exact absurd h (by simp [plainT])
  | _ => rfl
theorem mtX_star {Γ : Gam} {S : Sx} : ∀ {es : Exs} {as : List Expr}, mtX Γ S es as = true → as.all (fun e => !starred e) = true ∧ as.length = lenX es
  | .nil, [], _ => ⟨rfl, rfl⟩
  | .nil, _ :: _, h => by simp [mtX] at h
  | .cons a es, [], h => by simp [mtX] at h
  | .cons a es, e :: as, h => by
    simp only [mtX, Bool.and_eq_true] at h
    obtain ⟨h1, h2⟩ := mtX_star h.2
    exact ⟨by rw [List.all_cons, h1, mtE_star h.1]; rfl, by rw [List.length_cons, h2]; rfl⟩
  | .dr i es, [], h => by simp [mtX] at h
  | .dr i es, e :: as, h => by
    simp only [mtX, Bool.and_eq_true] at h
    obtain ⟨h1, h2⟩ := mtX_star h.2
    refine ⟨?_, by rw [List.length_cons, h2]; rfl⟩
    cases e with
    | Name x p => rw [List.all_cons, h1]; rfl
    | _ => simp at h
/-- the number of the arguments -/
def lenSl (n : Nat) (P : List Sl → Prop) : List Sl → Prop := fun ss => P ss ∧ ss.length = n

/-! ### calls -/
section
variable {X : Cx} {Γ : Gam} {ec : Str → Value} {W : WX} {a b c t : Ex} {ea eb et e0 : Expr} {pos p : Pos}
theorem snd_chain {op op2 : CmpOp} (hu : X.A.units + 66 < cLine) (ha : SE X Γ ec W a ea) (hb : SE X Γ ec W b eb) (hc : SE X Γ ec W c et) (hm : lastMarks [op, op2] [eb, et] = false) : SE X Γ ec W (.chain op op2 a b c) (.Compare ea [op, op2] [eb, et] pos) := by
  refine PE.conseq (pe_chain (cmp_F (by omega) op) (cmp_F (by omega) op2) ha hb hc hm) fun σ H Q h => ?_
  obtain ⟨F, O, ρ, P, E, e, w, hP, hE⟩ := h
  unfold wpE at w
  refine ⟨F, O, ρ, _, E, e, w, fun x hx v H1 s1 r1 => ?_, hE⟩
  refine ⟨F, O, ρ, _, E, e.stp s1, hx, fun y hy u H2 s2 r2 => ?_, hE.next s1⟩
  refine ⟨F.O0, O, x, y, ((e.stp s1).stp s2).dom, r1.b.stp (e.stp s1) s2, r2.b, _, cmpF_bool hy, fun r hr w H3 sm dr fr => ?_⟩
  obtain ⟨hr, k, rfl⟩ := hr
  cases dr
  have s3 : Stp X.K F O H2 H3 := Stp.same ((e.stp s1).stp s2) sm
  have s13 := (s1.trans s2).trans s3
  refine ⟨k, rfl, ?_⟩
  cases k with
  | true =>
    rw [if_pos rfl]
    refine ⟨F, O, ρ, _, E, e.stp s13, hr, fun z hz u4 H4 s4 r4 => ?_, hE.next s13⟩
    exact ⟨F.O0, O, y, z, ((e.stp s13).stp s4).dom, r2.b.stp ((e.stp s1).stp s2) (s3.trans s4), r4.b, P, hz, ansF_of e (s13.trans s4) hP⟩
  | false =>
    rw [if_neg Bool.false_ne_true]
    exact hP _ hr _ H3 s13 (res_dr (.bl _) (.inl rfl))
theorem snt_chain {op op2 : CmpOp} (hu : X.A.units + 66 < cLine) (ha : SE X Γ ec W a ea) (hb : SE X Γ ec W b eb) (hc : SE X Γ ec W c et) (hm : lastMarks [op, op2] [eb, et] = false) : PT X (.Compare ea [op, op2] [eb, et] pos) (tT X.K Γ ec W (.chain op op2 a b c)) := by
  refine PT.conseq (pt_chain (cmp_F (by omega) op) (cmp_F (by omega) op2) ha hb hc hm) fun σ H Q h => ?_
  obtain ⟨F, O, ρ, P, E, e, w, hP, hE⟩ := h
  unfold wpE at w
  refine ⟨F, O, ρ, _, E, e, w, fun x hx v H1 s1 r1 => ?_, hE⟩
  refine ⟨F, O, ρ, _, E, e.stp s1, hx, fun y hy u H2 s2 r2 => ?_, hE.next s1⟩
  refine ⟨F.O0, O, x, y, ((e.stp s1).stp s2).dom, r1.b.stp (e.stp s1) s2, r2.b, _, cmpF_bool hy, fun r hr w H3 sm dr fr => ?_⟩
  obtain ⟨hr, k, rfl⟩ := hr
  cases dr
  have s3 : Stp X.K F O H2 H3 := Stp.same ((e.stp s1).stp s2) sm
  have s13 := (s1.trans s2).trans s3
  refine ⟨k, rfl, ?_⟩
  cases k with
  | true =>
    rw [if_pos rfl]
    refine ⟨F, O, ρ, _, E, e.stp s13, hr, fun z hz u4 H4 s4 r4 => ?_, hE.next s13⟩
    refine ⟨F.O0, O, y, z, ((e.stp s13).stp s4).dom, r2.b.stp ((e.stp s1).stp s2) (s3.trans s4), r4.b, _, cmpF_bool hz, fun r hr w H5 sm5 dr5 fr5 => ?_⟩
    obtain ⟨hr, k, rfl⟩ := hr
    cases dr5
    obtain ⟨c', hc', q'⟩ := hP _ hr
    cases hc'
    exact ⟨_, rfl, q' H5 ((s13.trans s4).trans (Stp.same ((e.stp s13).stp s4) sm5))⟩
  | false =>
    rw [if_neg Bool.false_ne_true]
    obtain ⟨c', hc', q'⟩ := hP _ hr
    cases hc'
    exact ⟨_, rfl, q' H3 s13⟩
theorem snd_callB {f : FD} {bx : Bi} {es : Exs} {eas : List Expr} {x : Str} {id : String} (hf : bx.fd = f) (hc : CallR X (.builtin id) (RCD X.K f)) (hg : Gl X x) (hm : X.mg x = none) (hv : bootBuiltins x = some (.builtin id)) (ha : SA X Γ ec W es (e0 :: eas))
    (hst : (e0 :: eas).all (fun e => !starred e) = true) (hn : x ≠ "__name__") (hdb : (x == ("__debug__" : Str)) = false) : SE X Γ ec W (.bi bx es) (.Call (.Name x p) (e0 :: eas) [] pos) := by
  have hs : starred e0 = false := by rw [List.all_cons, Bool.and_eq_true] at hst; simpa using hst.1
  have hs2 : eas.all (fun e => !starred e) = true := by rw [List.all_cons, Bool.and_eq_true] at hst; exact hst.2
  refine PE.conseq (pe_callB hc hg hm hv ha hn hdb (star_cons hs) (star_any hs2)) fun σ H Q h => ?_
  obtain ⟨F, O, ρ, P, E, e, w, hP, hE⟩ := h
  unfold wpE at w
  refine ⟨F, O, ρ, _, E, e, w, fun ss hss vs H1 s1 r1 _ => ?_, hE⟩
  obtain ⟨ds, hds, q⟩ := optQ_iff hss
  rw [hf] at q
  exact ⟨F.O0, O, ds, (e.stp s1).dom, args_bdr r1 hds, P, q, ansF_of e s1 hP⟩
theorem snd_callT {f : FD} {bx : Bi} {es : Exs} {eas : List Expr} {x : Str} {T : String} (hf : bx.fd = f) (hc : CallR X (.type T) (RCD X.K f)) (hg : Gl X x) (hm : X.mg x = none) (hv : bootBuiltins x = some (.type T)) (ha : SA X Γ ec W es (e0 :: eas))
    (hst : (e0 :: eas).all (fun e => !starred e) = true) (hn : x ≠ "__name__") (hdb : (x == ("__debug__" : Str)) = false) : SE X Γ ec W (.bi bx es) (.Call (.Name x p) (e0 :: eas) [] pos) := by
  have hs : starred e0 = false := by rw [List.all_cons, Bool.and_eq_true] at hst; simpa using hst.1
  have hs2 : eas.all (fun e => !starred e) = true := by rw [List.all_cons, Bool.and_eq_true] at hst; exact hst.2
  refine PE.conseq (pe_callTy hc hg hm hv ha hn hdb (star_cons hs) (star_any hs2)) fun σ H Q h => ?_
  obtain ⟨F, O, ρ, P, E, e, w, hP, hE⟩ := h
  unfold wpE at w
  refine ⟨F, O, ρ, _, E, e, w, fun ss hss vs H1 s1 r1 _ => ?_, hE⟩
  obtain ⟨ds, hds, q⟩ := optQ_iff hss
  rw [hf] at q
  exact ⟨F.O0, O, ds, (e.stp s1).dom, args_bdr r1 hds, P, q, ansF_of e s1 hP⟩
theorem snd_gcd {es : Exs} {eas : List Expr} {x : Str} (hg : Gl X x) (hm : X.mg x = some (.builtin "math.gcd")) (ha : SA X Γ ec W es (e0 :: eas))
    (hst : (e0 :: eas).all (fun e => !starred e) = true) (hdb : (x == ("__debug__" : Str)) = false) : SE X Γ ec W (.bi .gcd es) (.Call (.Name x p) (e0 :: eas) [] pos) := by
  have hs : starred e0 = false := by rw [List.all_cons, Bool.and_eq_true] at hst; simpa using hst.1
  have hs2 : eas.all (fun e => !starred e) = true := by rw [List.all_cons, Bool.and_eq_true] at hst; exact hst.2
  refine PE.conseq (pe_callBfun cr_dGcd hg hm ha hdb (star_cons hs) (star_any hs2)) fun σ H Q h => ?_
  obtain ⟨F, O, ρ, P, E, e, w, hP, hE⟩ := h
  unfold wpE at w
  refine ⟨F, O, ρ, _, E, e, w, fun ss hss vs H1 s1 r1 _ => ?_, hE⟩
  obtain ⟨ds, hds, q⟩ := optQ_iff hss
  exact ⟨F.O0, O, ds, (e.stp s1).dom, args_bdr r1 hds, P, q, ansF_of e s1 hP⟩
theorem pe_tyname {x : Str} {T : String} {pos : Pos} (hg : Gl X x) (hm : X.mg x = none) (hv : bootBuiltins x = some (.type T)) (hn : x ≠ "__name__") (hd : (x == ("__debug__" : Str)) = false) : PE X (.Name x pos) (L2.tC (.ty T)) := pe_bltn (v := V.ty T) hg hm hv rfl hn hd
theorem snd_isi {T : String} {y : Str} {p2 : Pos} (hT : T = "int" ∨ T = "bool" ∨ T = "str" ∨ T = "tuple" ∨ T = "list") (ha : SE X Γ ec W a ea) (hs : starred ea = false) (hg : Gl X "isinstance") (hm : X.mg "isinstance" = none) (hgy : Gl X y) (hmy : X.mg y = none)
    (hvy : bootBuiltins y = some (.type T)) (hn : y ≠ "__name__") (hd : (y == ("__debug__" : Str)) = false) : SE X Γ ec W (.isi a T) (.Call (.Name "isinstance" p) [ea, .Name y p2] [] pos) := by
  refine PE.conseq (pe_callB call_isi hg hm PyProof.Rows.boot_isinstance (pa_cons ha (pa_cons (pe_tyname hgy hmy hvy hn hd) pa_nil rfl) (star_cons hs)) (by decide) (by decide) (star_cons hs) rfl) fun σ H Q h => ?_
  obtain ⟨F, O, ρ, P, E, e, w, hP, hE⟩ := h
  unfold wpE at w
  refine ⟨F, O, ρ, _, E, e, w, fun d hd v H1 s1 r1 => ?_, hE⟩
  have nd : ∀ kvs, d ≠ .dict kvs := fun kvs q => by
    have hb := r1.b
    rw [q] at hb
    exact hb.dict
  exact ⟨v, .ty T, .type (tyOfD d), .type T, isiD T d, rfl, .ty T, r1.b.tyX, kit_ty (kit_isi T hT nd), hP _ hd _ H1 s1 (res_dr (.bl _) (.inl rfl))⟩
/-- a def of the program -/
theorem snd_call {f : Str} {es : Exs} {eas : List Expr} {k : Nat} {fa : Addr} {fd : FuncData} {ps : List Str} (tk : Takes X W) (Fo : FnOk X.prog X.w X.K X.mg X.base (L2.CX X.prog X.w) k fa fd ps (spF X.K ec (Γ.Φ f))) (hr : Room k X.A) (hg : Gl X f) (hm : X.mg f = some (.ref fa))
    (hk : PySem.W.keepIn X.K (.ref fa) = true) (hb : Binds X.K fd ps []) (ha : SA X Γ ec W es (e0 :: eas)) (hn : nbX es = true) (hst : (e0 :: eas).all (fun e => !starred e) = true) (hdb : (f == ("__debug__" : Str)) = false) :
    SE X Γ ec W (.call f es) (.Call (.Name f p) (e0 :: eas) [] pos) := by
  have hs : starred e0 = false := by rw [List.all_cons, Bool.and_eq_true] at hst; simpa using hst.1
  have hs2 : eas.all (fun e => !starred e) = true := by rw [List.all_cons, Bool.and_eq_true] at hst; exact hst.2
  refine PE.conseq (pe_callS Fo hr hg hm hk hb (fun σ => passAt tk σ) ha hdb (star_cons hs) (star_any hs2)) fun σ H Q h => ?_
  obtain ⟨F, O, ρ, P, E, e, w, hP, hE⟩ := h
  unfold wpE at w
  refine ⟨F, O, ρ, _, E, e, w, fun ss hss vs H1 s1 r1 _ => ?_, hE⟩
  have e1 := e.stp s1
  have cv : ∀ {H'}, Stp X.K ⟨O, F.dA, F.dC, H1⟩ O H1 H' → Stp X.K F O H1 H' := fun s => ⟨s.keep, s.drw⟩
  rw [hn] at r1
  refine ⟨O, F.dA, F.dC, ss, P, E, e1.dom, fun a ha => ⟨e1.sub a (e1.drw a ha).1, (e1.drw a ha).2⟩, Paired.mapP r1 fun v sl q => ?_, hss, fun d hd v H' s' dr => hP d hd v H' (s1.trans (cv s')) (res_dr dr (.inl rfl)), fun x hx H' s' => hE x hx H' (s1.trans (cv s'))⟩
  cases sl with
  | fz d => exact q.2 rfl
  | dr => exact q
  | ow d => exact q.elim
end

/-! ### targets -/
/-- only the slots vs may differ -/
structure Only (vs : List Nat) (σ σ' : L2.St) : Prop where
  len : σ'.length = σ.length
  at_ : ∀ j, j ∉ vs → σ'[j]? = σ[j]?
theorem Only.refl (vs : List Nat) (σ : L2.St) : Only vs σ σ := ⟨rfl, fun _ _ => rfl⟩
def tG (K : PySem.W.Frag) (tg : Tg) : TG := fun v σ H Q => ∃ F O ρ d P, EnvR K F O H σ ρ ∧ Dr K O H v d ∧ bindT tg d ρ P ∧ ∀ ρ', P ρ' → ∀ σ', Only (slotsT tg) σ σ' → EnvR K F O H σ' ρ' → Q σ' H
def tGs (K : PySem.W.Frag) (ts : Tgs) : TGs := fun vs σ H Q => ∃ F O ρ ds P, EnvR K F O H σ ρ ∧ DrA K O H vs ds ∧ bindTs ts ds ρ P ∧ ∀ ρ', P ρ' → ∀ σ', Only (slotsTs ts) σ σ' → EnvR K F O H σ' ρ' → Q σ' H
theorem PG.conseq {X : Cx} {e : Expr} {t t' : TG} (h : PG X e t) (i : ∀ v σ H Q, t' v σ H Q → t v σ H Q) : PG X e t' := ⟨fun pins s σ H v u Q I r w => h.run pins s σ H v u Q I r (i v σ H Q w)⟩
theorem PGs.conseq {X : Cx} {e : List Expr} {t t' : TGs} (h : PGs X e t) (i : ∀ v σ H Q, t' v σ H Q → t v σ H Q) : PGs X e t' := ⟨fun pins s σ H v u Q I r w => h.run pins s σ H v u Q I r (i v σ H Q w)⟩
theorem locB_of {S : Sx} {x : Str} (h : locB S x = true) : Loc S.sc x ∧ (S.fn x = true ∨ S.sc.names.lookup x = some .local) := by
  unfold locB at h
  split at h
  · rename_i q; exact ⟨.inl q, .inr q⟩
  · rename_i q; exact ⟨.inr q, .inl h⟩
  · cases h
theorem mtT_star {S : Sx} {t : Tg} {e : Expr} (h : mtT S t e = true) : starred e = false := by
  cases e with
  | Starred v p => cases t <;> simp [mtT] at h
  | _ => rfl
theorem mtTs_assign {S : Sx} {env : Env} : ∀ {ts : Tgs} {es : List Expr}, mtTs S ts es = true → (assignEach es env).length = tgsLen ts ∧ (assignEach es env).findIdx? (·.1) = none
  | .nil, [], _ => ⟨rfl, rfl⟩
  | .nil, _ :: _, h => by simp [mtTs] at h
  | .cons t ts, [], h => by simp [mtTs] at h
  | .cons t ts, e :: es, h => by
    simp only [mtTs, Bool.and_eq_true] at h
    obtain ⟨h1, h2⟩ := mtTs_assign (env := env) h.2
    rw [assign_cons (mtT_star h.1)]
    refine ⟨by rw [List.length_cons, h1]; rfl, ?_⟩
    rw [List.findIdx?_cons]
    simp [h2]
mutual
theorem sndT {X : Cx} {S : Sx} (hN : X.N = S.N) (hsc : X.env.scope = S.sc) (hfn : X.fn = S.fn) (hc : X.calm = true) (nd : X.N.Nodup) : ∀ (t : Tg) (e : Expr), mtT S t e = true → PG X e (tG X.K t)
  | .n i, e, h => by
    cases e with
    | Name x p =>
      simp only [mtT, Bool.and_eq_true, decide_eq_true_eq] at h
      obtain ⟨h1, h2⟩ := locB_of h.2
      rw [← hsc] at h1 h2
      rw [← hfn] at h2
      refine PG.conseq (pg_name nd (by rw [hN]; exact h.1) h1 h2) fun v σ H Q q => ?_
      obtain ⟨F, O, ρ, d, P, env, hd, w, hP⟩ := q
      unfold bindT at w
      exact hP _ w _ ⟨List.length_set .., fun j hj => by
        simp only [slotsT, List.mem_singleton] at hj
        exact List.getElem?_set_ne (Ne.symm hj)⟩ (env.set hd)
    | _ => simp [mtT] at h
  | .t ts, e, h => by
    cases e with
    | Tuple es k p =>
      simp only [mtT] at h
      obtain ⟨h1, h2⟩ := mtTs_assign (env := X.env) h
      refine PG.conseq (pg_tup hc (sndTs hN hsc hfn hc nd ts es h) h1 h2) fun v σ H Q q => ?_
      obtain ⟨F, O, ρ, d, P, env, hd, w, hP⟩ := q
      unfold bindT at w
      split at w
      · obtain ⟨w1, w2⟩ := w
        cases hd with
        | tup hs hA =>
          refine ⟨_, _, rfl, hs.sq, by rw [hA.length]; exact w1, F, O, ρ, _, P, env, hA, w2, fun ρ' hp σ' on env' => ?_⟩
          exact hP ρ' hp σ' ⟨on.len, fun j hj => on.at_ j (by simpa [slotsT] using hj)⟩ env'
      · exact w.elim
    | _ => simp [mtT] at h
theorem sndTs {X : Cx} {S : Sx} (hN : X.N = S.N) (hsc : X.env.scope = S.sc) (hfn : X.fn = S.fn) (hc : X.calm = true) (nd : X.N.Nodup) : ∀ (ts : Tgs) (es : List Expr), mtTs S ts es = true → PGs X es (tGs X.K ts)
  | .nil, [], _ => PGs.conseq pgs_nil fun vs σ H Q q => by
    obtain ⟨F, O, ρ, ds, P, env, hd, w, hP⟩ := q
    unfold bindTs at w
    obtain ⟨rfl, w⟩ := w
    cases hd
    exact ⟨rfl, hP _ w σ (Only.refl _ σ) env⟩
  | .nil, _ :: _, h => by simp [mtTs] at h
  | .cons t ts, [], h => by simp [mtTs] at h
  | .cons t ts, e :: es, h => by
    simp only [mtTs, Bool.and_eq_true] at h
    have hs := mtT_star h.1
    refine PGs.conseq (pgs_cons (sndT hN hsc hfn hc nd t e h.1) (sndTs hN hsc hfn hc nd ts es h.2) (by rw [assign_cons hs]; rfl)) fun vs σ H Q q => ?_
    obtain ⟨F, O, ρ, ds, P, env, hd, w, hP⟩ := q
    unfold bindTs at w
    split at w
    · cases hd with
      | cons h1 h2 =>
        refine ⟨_, _, rfl, F, O, ρ, _, _, env, h1, w, fun ρ' hp σ' on env' => ?_⟩
        refine ⟨F, O, ρ', _, P, env', h2, hp, fun ρ2 hp2 σ2 on2 env2 => hP ρ2 hp2 σ2 ⟨on2.len.trans on.len, fun j hj => ?_⟩ env2⟩
        simp only [slotsTs, List.mem_append, not_or] at hj
        exact (on2.at_ j hj.2).trans (on.at_ j hj.1)
    · exact w.elim
end
end DL

set_option Elab.async false
set_option linter.all false
set_option maxRecDepth 100000
set_option maxHeartbeats 4000000
namespace DL
open PySem PySem.Spec PyProof.Rows L2 RZ

/-! ### what is walked -/
/-- later states of a comprehension: what stands stands, but the draw -/
def Rc (F : Fm) (O : Addr → Prop) (H : Hp) : (Addr → Prop) → Hp → Prop := fun O2 H2 => (∀ b o, H b = some o → ¬ O b → ¬ O2 b) ∧ ∀ b o, F.dA ≠ some b → H b = some o → H2 b = some o
/-- later states of a loop: what nobody owned stands -/
def Rf (O : Addr → Prop) (H : Hp) : (Addr → Prop) → Hp → Prop := fun O2 H2 => ∀ b o, ¬ O b → H b = some o → ¬ O2 b ∧ H2 b = some o
def WkB (K : PySem.W.Frag) (F : Fm) (O : Addr → Prop) (H : Hp) (n : Bool) (J : L2.It) (ds : List D) : Prop := Wk K (Rc F O H) J ds ∧ (n = true → Wk K (Rf O H) J ds)
def tI (K : PySem.W.Frag) (Γ : Gam) (ec : Str → Value) (W : WX) (it : Ir) : TI := fun σ H R => ∃ F O ρ P E, EnvR K F O H σ ρ ∧ wpI Γ it ρ P E ∧ (∀ ds, P ds → ∀ J H', Stp K F O H H' → WkB K F O H' (nbI it) J ds → R J H') ∧ Er1 K ec W F O H σ E
theorem PI.conseq {X : Cx} {tg e : Expr} {t t' : TI} (h : PI X tg e t) (i : ∀ σ H R, t' σ H R → t σ H R) : PI X tg e t' := ⟨fun pins s σ H R I w => h.run pins s σ H R I (i σ H R w)⟩
section
variable {K : PySem.W.Frag} {F : Fm} {O : Addr → Prop} {H : Hp} {σ : L2.St} {ρ : Rho} {v : V} {ds es : List D}
/-- a list, as the two kinds of later states see it -/
theorem lst_later (e : EnvR K F O H σ ρ) (h : BDr K F.O0 O H v (.list ds)) : ∃ a xs, v = .ref a ∧ xs.length = ds.length ∧ H a = some (.lst xs) ∧ (∀ O2 H2, Rc F O H O2 H2 → SqL K H2 a xs ∧ DrA K O2 H2 xs ds) ∧ (Dr K O H v (.list ds) → ∀ O2 H2, Rf O H O2 H2 → SqL K H2 a xs ∧ DrA K O2 H2 xs ds) := by
  have key : ∀ {a : Addr} {xs : List V}, F.dA ≠ some a → H a = some (.lst xs) → DrA K O H xs ds → ∀ O2 H2, Rc F O H O2 H2 → SqL K H2 a xs ∧ DrA K O2 H2 xs ds := fun {a xs} n h1 h2 O2 H2 r =>
    ⟨SqL.of (r.2 a _ n h1), DrA.stay (fun b o q m => r.1 b o q m) (fun b o m q => r.2 b o (e.nd m) q) ds xs h2⟩
  rcases h with h | ⟨a, xs, ds', rfl, q, n, h1, h2⟩
  · cases h with
    | @lst a xs _ h1 h2 h3 =>
      refine ⟨a, xs, rfl, h3.length, h1, key (e.nd h2) h1 h3, fun _ O2 H2 r => ⟨SqL.of (r a _ h2 h1).2, DrA.stay (fun b o q m => (r b o m q).1) (fun b o m q => (r b o m q).2) ds xs h3⟩⟩
  · cases q
    refine ⟨a, xs, rfl, h2.length, h1, key (e.ndo n) h1 h2, fun hd O2 H2 r => ?_⟩
    cases hd with
    | @lst _ xs' _ g1 g2 g3 =>
      rw [h1] at g1
      cases g1
      exact ⟨SqL.of (r a _ g2 h1).2, DrA.stay (fun b o q m => (r b o m q).1) (fun b o m q => (r b o m q).2) ds xs h2⟩
theorem tup_later (e : EnvR K F O H σ ρ) (h : BDr K F.O0 O H v (.tuple ds)) : ∃ a xs, v = .ref a ∧ xs.length = ds.length ∧ SqT K H a xs ∧ (∀ O2 H2, Rc F O H O2 H2 → SqT K H2 a xs ∧ DrA K O2 H2 xs ds) ∧ (∀ O2 H2, Rf O H O2 H2 → SqT K H2 a xs ∧ DrA K O2 H2 xs ds) := by
  cases h.tupDr with
  | @tup a xs _ h1 h3 =>
    refine ⟨a, xs, rfl, h3.length, h1.sq, fun O2 H2 r => ⟨?_, DrA.stay (fun b o q m => r.1 b o q m) (fun b o m q => r.2 b o (e.nd m) q) ds xs h3⟩, fun O2 H2 r => ⟨?_, DrA.stay (fun b o q m => (r b o m q).1) (fun b o m q => (r b o m q).2) ds xs h3⟩⟩
    · exact (StT.stay (O' := O2) (H' := H2) h1 (fun b o q m => r.1 b o q m) fun o m q => r.2 a o (e.nd m) q).sq
    · exact (StT.stay (O' := O2) (H' := H2) h1 (fun b o q m => (r b o m q).1) fun o m q => (r a o m q).2).sq
end
section
variable {X : Cx} {Γ : Gam} {ec : Str → Value} {W : WX} {a b c t : Ex} {ea eb et e0 tge : Expr} {pos p : Pos}
def iSeq (K : PySem.W.Frag) (tl : TE) : TI := fun σ H R => tl σ H fun x H1 => ∃ a, x = .ref a ∧ ((∃ xs, SqL K H1 a xs ∧ R (Itl K a) H1) ∨ ∃ xs, SqT K H1 a xs ∧ R (Itt K a) H1)
theorem pi_seq {l : Expr} {tl : TE} (hl : PE X l tl) : PI X tge l (iSeq X.K tl) := by
  refine ⟨fun pins s σ H R I h => ?_⟩
  refine thn (hl.run pins s σ H _ I h) fun v s1 ⟨x, H1, I1, r1, q1⟩ => ?_
  obtain ⟨a, e, q⟩ := q1
  subst e
  cases r1
  rcases q with ⟨xs, hq, q⟩ | ⟨xs, hq, q⟩
  · obtain ⟨its, rv, p, hz⟩ := I1.list hq
    refine wpAny_pyIter_list p.isList ?_
    refine ⟨s1.heap.objs.size, [s1.heap.objs.size], _, _, H1, rfl, I1.kept (t' := s1.toks) fun b o e => Heap.get?_push_of_some _ e, turn_list a _, ⟨_, Heap.get?_push_size _ rfl, rfl, rfl⟩, fun b hb => ?_, q⟩
    have e : b = s1.heap.objs.size := by simpa using hb
    subst e
    exact I1.fpOk (Nat.le_refl _) (I1.hok.fresh (Nat.le_refl _))
  · obtain ⟨its, rv, p, hz⟩ := I1.tuple hq
    refine wpAny_pyIter_tuple (show s1.heap.IsTuple a its.toArray from p) ?_
    refine ⟨s1.heap.objs.size, [s1.heap.objs.size], _, _, H1, rfl, I1.kept (t' := s1.toks) fun b o e => Heap.get?_push_of_some _ e, turn_tuple a _, ⟨_, Heap.get?_push_size _ rfl, rfl, rfl⟩, fun b hb => ?_, q⟩
    have e : b = s1.heap.objs.size := by simpa using hb
    subst e
    exact I1.fpOk (Nat.le_refl _) (I1.hok.fresh (Nat.le_refl _))
theorem sni_seq (ha : SE X Γ ec W a ea) : PI X tge ea (tI X.K Γ ec W (.seq a)) := by
  refine PI.conseq (pi_seq ha) fun σ H R h => ?_
  obtain ⟨F, O, ρ, P, E, e, w, hP, hE⟩ := h
  unfold wpI at w
  refine ⟨F, O, ρ, _, E, e, w, fun d hd v H1 s1 r1 => ?_, hE⟩
  unfold seqOf at hd
  split at hd
  · obtain ⟨x, xs, rfl, hl, h0, h1, h2⟩ := lst_later (e.stp s1) r1.b
    exact ⟨x, rfl, .inl ⟨xs, SqL.of h0, hP _ hd _ H1 s1 ⟨wk_list (fun O2 H2 r => (h1 O2 H2 r).1) (fun O2 H2 r => (h1 O2 H2 r).2) hl, fun n => wk_list (fun O2 H2 r => (h2 (r1.n n) O2 H2 r).1) (fun O2 H2 r => (h2 (r1.n n) O2 H2 r).2) hl⟩⟩⟩
  · obtain ⟨x, xs, rfl, hl, h0, h1, h2⟩ := tup_later (e.stp s1) r1.b
    exact ⟨x, rfl, .inr ⟨xs, h0, hP _ hd _ H1 s1 ⟨wk_tup (fun O2 H2 r => (h1 O2 H2 r).1) (fun O2 H2 r => (h1 O2 H2 r).2) hl, fun n => wk_tup (fun O2 H2 r => (h2 O2 H2 r).1) (fun O2 H2 r => (h2 O2 H2 r).2) hl⟩⟩⟩
  · exact hd.elim
theorem fzs1 {ss : List Sl} {d : D} (h : fzs ss = some [d]) : ss = [.fz d] := by
  cases ss with
  | nil => simp [fzs] at h
  | cons s r =>
    cases s with
    | fz e =>
      simp only [fzs, Option.map_eq_some_iff] at h
      obtain ⟨q, h1, h2⟩ := h
      cases h2
      cases r with
      | nil => rfl
      | cons s' r' => cases s' <;> simp [fzs] at h1
    | _ => simp [fzs] at h
theorem sni_rng1 {es : Exs} (hg : Gl X "range") (hm : X.mg "range" = none) (ha : SA X Γ ec W es [ea]) (hs : starred ea = false) (h1e : lenX es = 1) : PI X tge (.Call (.Name "range" p) [ea] [] pos) (tI X.K Γ ec W (.rng es)) := by
  refine PI.conseq (pi_range1 hg hm ha (star_cons hs)) fun σ H R h => ?_
  obtain ⟨F, O, ρ, P, E, e, w, hP, hE⟩ := h
  unfold wpI at w
  refine ⟨F, O, ρ, _, E, e, w, fun ss hss vs H1 s1 r1 hl => ?_, hE⟩
  obtain ⟨ds, hds, q⟩ := optQ_iff hss
  have hb := args_bdr r1 hds
  unfold rngW at q
  split at q
  · rename_i j
    obtain ⟨v, rfl, h1⟩ := Paired.one hb
    rw [h1.int]
    exact ⟨_, rfl, q.1.1, q.1.2, hP _ q.2 _ H1 s1 ⟨wk_range, fun _ => wk_range⟩⟩
  · obtain ⟨v, v', rfl, h1⟩ := Paired.two hb
    rw [h1e] at hl
    cases hl
  · exact q.elim
theorem sni_rng2 {es : Exs} (hg : Gl X "range") (hm : X.mg "range" = none) (ha : SA X Γ ec W es [ea, eb]) (hs : starred ea = false) (hs2 : starred eb = false) (h1e : lenX es = 2) : PI X tge (.Call (.Name "range" p) [ea, eb] [] pos) (tI X.K Γ ec W (.rng es)) := by
  refine PI.conseq (pi_range2 hg hm ha (by rw [star_cons hs, star_cons hs2]; rfl) (star_cons hs2)) fun σ H R h => ?_
  obtain ⟨F, O, ρ, P, E, e, w, hP, hE⟩ := h
  unfold wpI at w
  refine ⟨F, O, ρ, _, E, e, w, fun ss hss vs H1 s1 r1 hl => ?_, hE⟩
  obtain ⟨ds, hds, q⟩ := optQ_iff hss
  have hb := args_bdr r1 hds
  unfold rngW at q
  split at q
  · obtain ⟨v, rfl, h1⟩ := Paired.one hb
    rw [h1e] at hl
    cases hl
  · obtain ⟨v, v', rfl, h1, h2⟩ := Paired.two hb
    rw [h1.int, h2.int]
    exact ⟨_, _, rfl, ⟨q.1.1, q.1.2, q.2.1.1, q.2.1.2⟩, hP _ q.2.2 _ H1 s1 ⟨wk_range, fun _ => wk_range⟩⟩
  · exact q.elim
theorem sni_enum {elts : List Expr} {kk : Nat} {tpos : Pos} (hg : Gl X "enumerate") (hm : X.mg "enumerate" = none) (ha : SE X Γ ec W a ea) (hs : starred ea = false) : PI X (.Tuple elts kk tpos) (.Call (.Name "enumerate" p) [ea] [] pos) (tI X.K Γ ec W (.enum a)) := by
  refine PI.conseq (pi_enum hg hm (pa_cons ha pa_nil (star_cons hs)) (star_cons hs)) fun σ H R h => ?_
  obtain ⟨F, O, ρ, P, E, e, w, hP, hE⟩ := h
  unfold wpI at w
  refine ⟨F, O, ρ, _, E, e, w, fun d hd v H1 s1 r1 => ?_, hE⟩
  unfold enumW at hd
  split at hd
  · obtain ⟨x, xs, rfl, hl, h0, h1, h2⟩ := lst_later (e.stp s1) r1.b
    exact ⟨x, xs, rfl, SqL.of h0, hP _ hd _ H1 s1 ⟨wk_enum (fun O2 H2 r => (h1 O2 H2 r).1) (fun O2 H2 r => (h1 O2 H2 r).2) hl, fun n => wk_enum (fun O2 H2 r => (h2 (r1.n n) O2 H2 r).1) (fun O2 H2 r => (h2 (r1.n n) O2 H2 r).2) hl⟩⟩
  · exact hd.elim
theorem wk_zipT {K : PySem.W.Frag} {R : (Addr → Prop) → Hp → Prop} {a b : Addr} {xs ys : List V} {ds es : List D} (h1 : ∀ O' H', R O' H' → SqT K H' a xs) (h2 : ∀ O' H', R O' H' → DrA K O' H' xs ds) (hl : xs.length = ds.length) (g1 : ∀ O' H', R O' H' → SqT K H' b ys) (g2 : ∀ O' H', R O' H' → DrA K O' H' ys es) (gl : ys.length = es.length) :
    Wk K R (ItzT K a b) (zipD ds es) := by
  refine ⟨fun H => SqT K H a xs ∧ SqT K H b ys, YPair (fun i => xs[i]?) (fun i => ys[i]?), ⟨fun i H hi q => ?_, fun H q => ⟨xs, ys, q.1, q.2, ?_⟩, fun i H v H' hi q y => ?_⟩, fun O' H' r => ⟨h1 O' H' r, g1 O' H' r⟩, fun O' H' i x H'' r dm hi y => ?_⟩
  · have hz : (zipD ds es).length = min ds.length es.length := by unfold zipD; rw [List.length_zipWith]
    rw [hz] at hi
    exact ⟨xs, ys, xs[i]'(by omega), ys[i]'(by omega), q.1, q.2, by simp, by simp⟩
  · have hz : (zipD ds es).length = min ds.length es.length := by unfold zipD; rw [List.length_zipWith]
    rw [hz]
    omega
  · obtain ⟨T, x, z, e1, e2, e3, e4, e5⟩ := y
    exact ⟨T, x, z, e1, e2, e3, e4 xs q.1, e5 ys q.2⟩
  · obtain ⟨T, u, v, rfl, hT, rfl, e1, e2⟩ := y
    obtain ⟨d, e3, h3⟩ := (h2 O' _ r).get e1
    obtain ⟨e, e4, h4⟩ := (g2 O' _ r).get e2
    obtain ⟨p1, p2⟩ := dr_pair dm hT h3 h4
    exact ⟨p1, _, zipD_get e3 e4, p2⟩
theorem sni_zip {elts : List Expr} {kk : Nat} {tpos : Pos} (hg : Gl X "zip") (hm : X.mg "zip" = none) (ha : SE X Γ ec W a ea) (hb : SE X Γ ec W b eb) (hs : starred ea = false) (hs2 : starred eb = false) : PI X (.Tuple elts kk tpos) (.Call (.Name "zip" p) [ea, eb] [] pos) (tI X.K Γ ec W (.zip a b)) := by
  refine PI.conseq (pi_zipA hg hm (pa_cons ha (pa_cons hb pa_nil (star_cons hs2)) (star_cons hs)) (star_cons hs) (by rw [star_cons hs2]; rfl)) fun σ H R h => ?_
  obtain ⟨F, O, ρ, P, E, e, w, hP, hE⟩ := h
  unfold wpI at w
  refine ⟨F, O, ρ, _, E, e, w, fun d hd v H1 s1 r1 => ?_, hE⟩
  refine ⟨F, O, ρ, _, E, e.stp s1, hd, fun y hy u H2 s2 r2 => ?_, hE.next s1⟩
  have e2 := (e.stp s1).stp s2
  have b1 := r1.b.stp (e.stp s1) s2
  unfold zipW at hy
  split at hy
  · obtain ⟨x, xs, rfl, hl, h0, h1, h2⟩ := lst_later e2 b1
    obtain ⟨z, zs, rfl, gl, g0, g1, g2⟩ := lst_later e2 r2.b
    refine ⟨x, z, xs, zs, rfl, .inl ⟨SqL.of h0, SqL.of g0, hP _ hy _ H2 (s1.trans s2) ⟨wk_zipL (fun O2 H2 r => (h1 O2 H2 r).1) (fun O2 H2 r => (h1 O2 H2 r).2) hl (fun O2 H2 r => (g1 O2 H2 r).1) (fun O2 H2 r => (g1 O2 H2 r).2) gl, fun n => ?_⟩⟩⟩
    simp only [nbI, Bool.and_eq_true] at n
    exact wk_zipL (fun O2 H2 r => (h2 ((r1.n n.1).stp (e.stp s1) s2) O2 H2 r).1) (fun O2 H2 r => (h2 ((r1.n n.1).stp (e.stp s1) s2) O2 H2 r).2) hl (fun O2 H2 r => (g2 (r2.n n.2) O2 H2 r).1) (fun O2 H2 r => (g2 (r2.n n.2) O2 H2 r).2) gl
  · obtain ⟨x, xs, rfl, hl, h0, h1, h2⟩ := tup_later e2 b1
    obtain ⟨z, zs, rfl, gl, g0, g1, g2⟩ := tup_later e2 r2.b
    exact ⟨x, z, xs, zs, rfl, .inr ⟨h0, g0, hP _ hy _ H2 (s1.trans s2) ⟨wk_zipT (fun O2 H2 r => (h1 O2 H2 r).1) (fun O2 H2 r => (h1 O2 H2 r).2) hl (fun O2 H2 r => (g1 O2 H2 r).1) (fun O2 H2 r => (g1 O2 H2 r).2) gl,
      fun n => wk_zipT (fun O2 H2 r => (h2 O2 H2 r).1) (fun O2 H2 r => (h2 O2 H2 r).2) hl (fun O2 H2 r => (g2 O2 H2 r).1) (fun O2 H2 r => (g2 O2 H2 r).2) gl⟩⟩⟩
  · exact hy.elim
end
end DL

set_option Elab.async false
set_option linter.all false
set_option maxRecDepth 100000
set_option maxHeartbeats 4000000
namespace DL
open PySem PySem.Spec PyProof.Rows L2

/-! ### comprehensions -/
section
variable {K : PySem.W.Frag} {F : Fm} {O : Addr → Prop} {H H' : Hp} {σ : L2.St} {ρ : Rho} {p : Addr} {xs ys : List V}
theorem EnvR.wipe (e : EnvR K F O H σ ρ) : ∀ vs : List Nat, EnvR K F O H (L2.wipe σ vs) (wipeR ρ vs)
  | [] => e
  | v :: vs => (EnvR.wipe e vs).unset none
/-- nobody's slot holds p -/
def NoSlot (σ : L2.St) (ρ : Rho) (p : Addr) : Prop := ∀ (i : Nat) (d : D), ρ[i]? = some (some (.ow d)) → σ[i]? ≠ some (some (.ref p))
/-- the heap grows by a list that no slot holds -/
theorem EnvR.grow (e : EnvR K F O H σ ρ) (hp : H p = none) : EnvR K F (fun a => O a ∨ a = p) (upd H p (.lst xs)) σ ρ ∧ NoSlot σ ρ p := by
  have sm : Same H (upd H p (.lst xs)) := same_upd hp
  have e' := e.stp (Stp.same e sm)
  have np : ¬ O p := e.dom.fresh hp
  have up : ∀ {v : V} {d : D}, Dr K O H v d → Dr K (fun a => O a ∨ a = p) (upd H p (.lst xs)) v d := fun {v d} hd => (hd.more hp).same sm
  have upA : ∀ {v : List V} {d : List D}, DrA K O H v d → DrA K (fun a => O a ∨ a = p) (upd H p (.lst xs)) v d := fun {v d} hd => (hd.more hp).same sm
  refine ⟨⟨e.len, fun j s q => ?_, e.sep, fun a h => .inl (e.sub a h), fun a h => ?_, fun a h n => ?_, e'.keep, fun a h => ?_⟩, fun i d h1 h2 => ?_⟩
  · obtain ⟨w, h1, h2⟩ := e.slot j s q
    refine ⟨w, h1, ?_⟩
    cases s with
    | fz d => exact up h2
    | dr => exact h2
    | ow d =>
      obtain ⟨a, rfl, h3, h4, ys, es, rfl, h5, h6⟩ := h2
      exact ⟨a, rfl, .inl h3, h4, ys, es, rfl, sm _ _ h5, upA h6⟩
  · rcases h with h | rfl
    · exact e'.dom a h
    · exact ⟨_, upd_same⟩
  · rcases h with h | rfl
    · exact e.unp a h n
    · cases q : F.H0 a with
      | none => rfl
      | some o =>
        by_cases hd : F.dA = some a
        · exact absurd (e.drw a hd).1 n
        · rw [e.keep a o hd q] at hp; cases hp
  · obtain ⟨h1, cells, i', cur, seed, g1, g2, g3, g4⟩ := e'.drw a h
    refine ⟨h1, cells, i', cur, seed, g1, g2, fun q => ?_, g4⟩
    rcases q with q | q
    · exact g3 q
    · obtain ⟨_, cells0, i0, cur0, seed0, k1, k2, _⟩ := e.drw a h
      rw [q, hp] at k2; cases k2
  · obtain ⟨w, g1, b, rfl, g2, _, ys, es, rfl, g3, _⟩ := e.slot i _ h1
    rw [h2] at g1
    cases g1
    rw [hp] at g3; cases g3
/-- that list changes -/
theorem EnvR.touch (e : EnvR K F O H σ ρ) (n : NoSlot σ ρ p) (hO : O p) (h0 : ¬ F.O0 p) : EnvR K F O (upd H p (.lst ys)) σ ρ := by
  have kp : ∀ b o, ¬ O b → H b = some o → (upd H p (.lst ys)) b = some o := fun b o nb q => by
    rw [upd_ne (fun z => nb (by rw [z]; exact hO))]
    exact q
  have nda : F.dA ≠ some p := e.ndo h0
  refine ⟨e.len, fun j s q => ?_, e.sep, e.sub, fun b hb => ?_, e.unp, fun b o nb hb => ?_, fun b hb => ?_⟩
  · obtain ⟨w, h1, h2⟩ := e.slot j s q
    refine ⟨w, h1, ?_⟩
    cases s with
    | fz d => exact Dr.stay (fun _ _ _ n => n) kp d w h2
    | dr => exact h2
    | ow d =>
      obtain ⟨a, rfl, h3, h4, ys', es, rfl, h5, h6⟩ := h2
      have na : a ≠ p := fun z => n j _ q (by rw [h1, z])
      exact ⟨a, rfl, h3, h4, ys', es, rfl, by rw [upd_ne na]; exact h5, DrA.stay (fun _ _ _ n => n) kp es ys' h6⟩
  · by_cases hba : b = p
    · subst hba; exact ⟨_, upd_same⟩
    · rw [upd_ne hba]; exact e.dom b hb
  · have hba : b ≠ p := fun z => by
      rw [z, e.unp p hO h0] at hb; cases hb
    rw [upd_ne hba]
    exact e.keep b o nb hb
  · obtain ⟨g1, cells, i', cur, seed, k1, k2, k3, k4⟩ := e.drw b hb
    have nb : b ≠ p := fun z => nda (by rw [← z]; exact hb)
    have nc : F.dC ≠ p := fun z => k3 (by rw [z]; exact hO)
    exact ⟨g1, cells, i', cur, seed, by rw [upd_ne nb]; exact k1, by rw [upd_ne nc]; exact k2, k3, k4⟩
theorem wipe_get : ∀ {vs : List Nat} {σ : L2.St} {j : Nat}, (L2.wipe σ vs)[j]? = if j ∈ vs ∧ j < σ.length then some none else σ[j]?
  | [], σ, j => by simp [L2.wipe]
  | v :: vs, σ, j => by
    unfold L2.wipe
    by_cases hj : j = v
    · subst hj
      by_cases hl : j < σ.length
      · rw [List.getElem?_set_self (by rw [wipe_length]; exact hl), if_pos ⟨List.mem_cons_self, hl⟩]
      · rw [List.getElem?_eq_none (by rw [List.length_set, wipe_length]; omega), if_neg (fun q => hl q.2), List.getElem?_eq_none (by omega)]
    · rw [List.getElem?_set_ne (Ne.symm hj), wipe_get]
      by_cases hm : j ∈ vs ∧ j < σ.length
      · rw [if_pos hm, if_pos ⟨List.mem_cons_of_mem _ hm.1, hm.2⟩]
      · rw [if_neg hm, if_neg (fun q => hm ⟨(List.mem_cons.mp q.1).resolve_left hj, q.2⟩)]
theorem wipe_only {vs ts : List Nat} {σ' : L2.St} (h : Only ts σ σ') (hs : ∀ j ∈ ts, j ∈ vs) : L2.wipe σ' vs = L2.wipe σ vs := by
  apply List.ext_getElem?
  intro j
  rw [wipe_get, wipe_get, h.len]
  by_cases hm : j ∈ vs ∧ j < σ.length
  · rw [if_pos hm, if_pos hm]
  · rw [if_neg hm, if_neg hm]
    by_cases hj : j ∈ ts
    · have : ¬ j < σ.length := fun q => hm ⟨hs j hj, q⟩
      rw [List.getElem?_eq_none (by rw [h.len]; omega), List.getElem?_eq_none (by omega)]
    · exact h.at_ j hj
theorem wipe_idem {vs : List Nat} : L2.wipe (L2.wipe σ vs) vs = L2.wipe σ vs := by
  apply List.ext_getElem?
  intro j
  rw [wipe_get, wipe_get, wipe_length]
  by_cases hm : j ∈ vs ∧ j < σ.length
  · rw [if_pos hm, if_pos hm]
  · rw [if_neg hm, if_neg hm]
end

section
variable {X : Cx} {Γ : Gam} {ec : Str → Value} {W : WX}
abbrev W0 : WX := fun _ _ _ _ => False
theorem snd_comp {own : List (Str × Nat)} {elt : Ex} {tg : Tg} {it : Ir} {ifs : Eo} {eelt etg eiter : Expr} {eifs : List Expr} {scope : Scope} {pos : Pos} (hc : X.calm = true) (nd : X.N.Nodup) (hi : PI X etg eiter (tI X.K Γ ec W it)) (ok : BlkOk X.N X.env.scope scope own)
    (hsub : ∀ j ∈ slotsT tg, j ∈ own.map (·.2)) (hne : nb elt = true)
    (hg : ∀ (s : Shared) (H : Hp) (C : Addr) (cl : List (Str × Addr)) (fp : List Addr), PG (X.blk s H scope (compEnvC scope cl C X.env) fp) etg (tG X.K tg)) (ht : ∀ (s : Shared) (H : Hp) (C : Addr) (cl : List (Str × Addr)) (fp : List Addr), PTs (X.blk s H scope (compEnvC scope cl C X.env) fp) eifs (tC X.K Γ ec W0 ifs))
    (he : ∀ (s : Shared) (H : Hp) (C : Addr) (cl : List (Str × Addr)) (fp : List Addr), PE (X.blk s H scope (compEnvC scope cl C X.env) fp) eelt (tE X.K Γ ec W0 elt)) (hs : ∀ x, foldedSetIterable eiter X.env x = pure x) :
    SE X Γ ec W (.comp own elt tg it ifs) (.ListComp eelt [⟨etg, eiter, eifs, 0⟩] scope pos) ∧
    ∀ σ H Q, tE X.K Γ ec W (.comp own elt tg it ifs) σ H Q → tLc (tI X.K Γ ec W it) (tG X.K tg) (tC X.K Γ ec W0 ifs) (tE X.K Γ ec W0 elt) (own.map (·.2)) σ H Q := by
  have main : ∀ σ H Q, tE X.K Γ ec W (.comp own elt tg it ifs) σ H Q → tLc (tI X.K Γ ec W it) (tG X.K tg) (tC X.K Γ ec W0 ifs) (tE X.K Γ ec W0 elt) (own.map (·.2)) σ H Q := by
    intro σ H Q h
    obtain ⟨F, O, ρ, P, E, e, w, hP, hE⟩ := h
    unfold wpE at w
    refine ⟨F, O, ρ, _, E, e, w, fun ds hds J H1 s1 wk => ?_, hE⟩
    obtain ⟨hlen, hfold⟩ := hds
    obtain ⟨G, Y, walk, hGR, hY⟩ := wk.1
    intro D hD
    have e1 := e.stp s1
    have ndO : ¬ O D := e1.dom.fresh hD
    have nO0 : ¬ F.O0 D := fun q => ndO (e1.sub D q)
    have nda : F.dA ≠ some D := e1.ndo nO0
    generalize hvs : own.map (·.2) = vs at *
    generalize hst : (fun (d : PyData) (acc : List PyData) (k : List PyData → Prop) => bindT tg d (wipeR ρ vs) fun ρ1 => wpC Γ ifs ρ1 (fun c => if c = true then wpE Γ elt ρ1 (fun y => k (acc ++ [y])) nE else k acc) nE) = step at hfold
    -- later states
    have later : ∀ {O2 : Addr → Prop} {H2 : Hp}, EnvR X.K F (fun a => O a ∨ a = D) H2 (L2.wipe σ vs) (wipeR ρ vs) → (∀ b o, F.dA ≠ some b → H1 b = some o → H2 b = some o) → Rc F O H1 (fun a => O a ∨ a = D) H2 := fun {O2 H2} e2 k =>
      ⟨fun b o q m z => (by
        rcases z with z | z
        · exact m z
        · rw [z, hD] at q; cases q), k⟩
    refine lc_it walk (fun i H' => ∃ xs acc, EnvR X.K F (fun a => O a ∨ a = D) H' (L2.wipe σ vs) (wipeR ρ vs) ∧ NoSlot (L2.wipe σ vs) (wipeR ρ vs) D ∧ (∀ b o, F.dA ≠ some b → H1 b = some o → H' b = some o) ∧ H' D = some (.lst xs) ∧ DrA X.K (fun a => O a ∨ a = D) H' xs acc ∧ xs.length ≤ i ∧ foldW step (ds.drop i) acc fun acc => P (.list acc)) ?_ ?_ ?_ ?_
    · obtain ⟨g1, g2⟩ := (e1.wipe vs).grow (xs := []) hD
      exact ⟨[], [], g1, g2, fun b o _ q => same_upd hD b o q, upd_same, .nil, Nat.le_refl _, by rw [List.drop_zero]; exact hfold⟩
    · rintro i H' _ ⟨xs, acc, e2, n2, k2, _⟩
      exact hGR _ _ (later (O2 := O) e2 k2)
    · rintro i x H' H'' hi ⟨xs, acc, e2, n2, k2, hx, hA, hl, hf⟩ y
      obtain ⟨sm, d, hd, hdr⟩ := hY _ _ i x H'' (later (O2 := O) e2 k2) e2.dom hi y
      have st2 : Stp X.K F (fun a => O a ∨ a = D) H' H'' := Stp.same e2 sm
      have e3 := e2.stp st2
      have edrop : ds.drop i = d :: ds.drop (i + 1) := by
        obtain ⟨h1, h2⟩ := List.getElem?_eq_some_iff.mp hd
        rw [List.drop_eq_getElem_cons h1, h2]
      rw [edrop] at hf
      unfold foldW at hf
      have hf' : bindT tg d (wipeR ρ vs) fun ρ1 => wpC Γ ifs ρ1 (fun c => if c = true then wpE Γ elt ρ1 (fun y => foldW step (ds.drop (i + 1)) (acc ++ [y]) fun acc => P (.list acc)) nE else foldW step (ds.drop (i + 1)) acc fun acc => P (.list acc)) nE := by
        rw [← hst] at hf ⊢
        exact hf
      -- what the next turn wants, from a later heap
      have stay : ∀ {H4 : Hp}, Stp X.K F (fun a => O a ∨ a = D) H'' H4 → EnvR X.K F (fun a => O a ∨ a = D) H4 (L2.wipe σ vs) (wipeR ρ vs) ∧ (∀ b o, F.dA ≠ some b → H1 b = some o → H4 b = some o) ∧ H4 D = some (.lst xs) ∧ DrA X.K (fun a => O a ∨ a = D) H4 xs acc := fun {H4} s4 =>
        ⟨e3.stp s4, fun b o n q => s4.keep b o n (sm b o (k2 b o n q)), s4.keep _ _ nda (sm _ _ hx), (hA.same sm).stp e3 s4⟩
      refine ⟨F, (fun a => O a ∨ a = D), wipeR ρ vs, d, _, e3, hdr, hf', fun ρ1 h1 σ1 on e4 => ?_⟩
      refine ⟨(wipe_only on hsub).trans wipe_idem, F, (fun a => O a ∨ a = D), ρ1, _, nE, e4, h1, fun b hb H3 s3 => ?_, fun x hx => hx.elim⟩
      cases b with
      | true =>
        rw [if_pos rfl] at hb ⊢
        refine ⟨F, (fun a => O a ∨ a = D), ρ1, _, nE, e4.stp s3, hb, fun yd hyd yv H4 s4 r4 => ?_, fun x hx => hx.elim⟩
        obtain ⟨g1, g2, g3, g4⟩ := stay (s3.trans s4)
        have hlt : xs.length < ds.length := Nat.lt_of_le_of_lt hl hi
        refine ⟨xs, g3, by omega, xs ++ [yv], acc ++ [yd], g1.touch n2 (.inr rfl) nO0, n2, fun b o n q => ?_, upd_same, ?_, by rw [List.length_append]; simp; exact hl, hyd⟩
        · have nb' : b ≠ D := fun z => by rw [z, hD] at q; cases q
          rw [upd_ne nb']
          exact g2 b o n q
        · have kp : ∀ b o, ¬ (O b ∨ b = D) → H4 b = some o → (upd H4 D (.lst (xs ++ [yv]))) b = some o := fun b o m q => by
            rw [upd_ne (fun z => m (.inr z))]
            exact q
          exact DrA.stay (fun _ _ _ n => n) kp _ _ (g4.append (.cons (r4.n hne) .nil))
      | false =>
        rw [if_neg Bool.false_ne_true] at hb ⊢
        obtain ⟨g1, g2, g3, g4⟩ := stay s3
        exact ⟨xs, acc, g1, n2, g2, g3, g4, by omega, hb⟩
    · rintro H' ⟨xs, acc, e2, n2, k2, hx, hA, hl, hf⟩
      rw [List.drop_length] at hf
      have hA' : DrA X.K O H' xs acc := DrA.stay (fun _ _ _ n q => n (.inl q)) (fun _ _ _ q => q) _ _ hA
      have hdr : Dr X.K O H' (.ref D) (.list acc) := .lst hx ndO hA'
      refine hP _ hf _ H' ⟨fun b o n q => k2 b o n (s1.keep b o n q), fun a ha => ?_⟩ ⟨.inl hdr, fun _ => hdr, fun _ ds' eq => ?_⟩
      · obtain ⟨h1, cells, i', cur, seed, q1, q2, q3, q4⟩ := e2.drw a ha
        exact ⟨cells, i', cur, seed, q1, q2, fun z => q3 (.inl z), q4⟩
      · cases eq
        exact ⟨D, xs, rfl, s1.free e hD, hx, hA⟩
  exact ⟨PE.conseq (pe_lc hc nd hi ok hg ht he hs) main, main⟩
/-! two clauses -/
/-- a target's binding makes no owned name -/
def NewOw (ts : List Nat) (ρ ρ' : Rho) : Prop := ∀ (i : Nat) (e : D), ρ'[i]? = some (some (.ow e)) → i ∉ ts ∧ ρ[i]? = some (some (.ow e))
theorem newOw_trans {ts us : List Nat} {ρ ρ1 ρ2 : Rho} (h : NewOw ts ρ ρ1) (k : NewOw us ρ1 ρ2) : NewOw (ts ++ us) ρ ρ2 := fun i e q => by
  obtain ⟨h1, h2⟩ := k i e q
  obtain ⟨h3, h4⟩ := h i e h2
  exact ⟨fun m => (List.mem_append.mp m).elim h3 h1, h4⟩
mutual
theorem bindT_mono : ∀ (t : Tg) (d : D) (ρ : Rho) (P Q : Rho → Prop), (∀ r, P r → Q r) → bindT t d ρ P → bindT t d ρ Q
  | .n i, d, ρ, P, Q, h, q => by
    unfold bindT at q ⊢
    exact h _ q
  | .t ts, d, ρ, P, Q, h, q => by
    cases d with
    | tuple ds =>
      unfold bindT at q ⊢
      exact ⟨q.1, bindTs_mono ts ds ρ P Q h q.2⟩
    | _ => unfold bindT at q; exact q.elim
theorem bindTs_mono : ∀ (ts : Tgs) (ds : List D) (ρ : Rho) (P Q : Rho → Prop), (∀ r, P r → Q r) → bindTs ts ds ρ P → bindTs ts ds ρ Q
  | .nil, ds, ρ, P, Q, h, q => by
    unfold bindTs at q ⊢
    exact ⟨q.1, h _ q.2⟩
  | .cons t ts, [], ρ, P, Q, h, q => by unfold bindTs at q; exact q.elim
  | .cons t ts, d :: ds, ρ, P, Q, h, q => by
    unfold bindTs at q ⊢
    exact bindT_mono t d ρ _ _ (fun r hr => bindTs_mono ts ds r P Q h hr) q
end
mutual
theorem bindT_ow : ∀ (t : Tg) (d : D) (ρ : Rho) (P : Rho → Prop), bindT t d ρ P → bindT t d ρ fun ρ' => P ρ' ∧ NewOw (slotsT t) ρ ρ'
  | .n i, d, ρ, P, q => by
    unfold bindT at q ⊢
    refine ⟨q, fun j e h => ?_⟩
    rcases get_set h with ⟨_, e2, _⟩ | ⟨hj, h⟩
    · cases e2
    · exact ⟨by unfold slotsT; simpa using hj, h⟩
  | .t ts, d, ρ, P, q => by
    cases d with
    | tuple ds =>
      unfold bindT at q ⊢
      unfold slotsT
      exact ⟨q.1, bindTs_ow ts ds ρ P q.2⟩
    | _ => unfold bindT at q; exact q.elim
theorem bindTs_ow : ∀ (ts : Tgs) (ds : List D) (ρ : Rho) (P : Rho → Prop), bindTs ts ds ρ P → bindTs ts ds ρ fun ρ' => P ρ' ∧ NewOw (slotsTs ts) ρ ρ'
  | .nil, ds, ρ, P, q => by
    unfold bindTs at q ⊢
    exact ⟨q.1, q.2, fun i e h => ⟨by unfold slotsTs; simp, h⟩⟩
  | .cons t ts, [], ρ, P, q => by unfold bindTs at q; exact q.elim
  | .cons t ts, d :: ds, ρ, P, q => by
    unfold bindTs at q ⊢
    refine bindT_mono t d ρ _ _ (fun r hr => ?_) (bindT_ow t d ρ _ q)
    refine bindTs_mono ts ds r _ _ (fun r2 h2 => ⟨h2.1, ?_⟩) (bindTs_ow ts ds r P hr.1)
    unfold slotsTs
    exact newOw_trans hr.2 h2.2
end
/-- names bound otherwise than to the list keep off it -/
theorem NoSlot.bind {ts : List Nat} {σ σ' : L2.St} {ρ ρ' : Rho} {p : Addr} (n : NoSlot σ ρ p) (o : Only ts σ σ') (w : NewOw ts ρ ρ') : NoSlot σ' ρ' p := fun i d h => by
  obtain ⟨h1, h2⟩ := w i d h
  rw [o.at_ i h1]
  exact n i d h2
theorem wipeR_ow {vs : List Nat} {ρ : Rho} {i : Nat} {e : D} : (wipeR ρ vs)[i]? = some (some (.ow e)) → ρ[i]? = some (some (.ow e)) ∧ i ∉ vs := by
  induction vs with
  | nil => intro h; exact ⟨h, by simp⟩
  | cons v vs ih =>
    intro h
    unfold wipeR at h
    rcases get_set h with ⟨_, e2, _⟩ | ⟨hj, h⟩
    · cases e2
    · obtain ⟨h1, h2⟩ := ih h
      exact ⟨h1, fun m => (List.mem_cons.mp m).elim hj h2⟩
theorem NoSlot.wipe {vs : List Nat} {σ : L2.St} {ρ : Rho} {p : Addr} (n : NoSlot σ ρ p) : NoSlot (L2.wipe σ vs) (wipeR ρ vs) p := fun i d h => by
  obtain ⟨h1, h2⟩ := wipeR_ow h
  rw [wipe_get, if_neg (fun q => h2 q.1)]
  exact n i d h1
theorem NoSlot.none_ {σ : L2.St} {ρ : Rho} {K : PySem.W.Frag} {F : Fm} {O : Addr → Prop} {H : Hp} {p : Addr} (e : EnvR K F O H σ ρ) (hp : H p = none) : NoSlot σ ρ p := fun i d h1 h2 => by
  obtain ⟨w, g1, b, rfl, g2, _, ys, es, rfl, g3, _⟩ := e.slot i _ h1
  rw [h2] at g1
  cases g1
  rw [hp] at g3; cases g3
theorem snd_comp2 {own : List (Str × Nat)} {elt : Ex} {tg tg1 : Tg} {it it1 : Ir} {ifs ifs1 : Eo} {eelt etg eiter etg1 eiter1 : Expr} {eifs eifs1 : List Expr} {scope : Scope} {pos : Pos} (hc : X.calm = true) (nd : X.N.Nodup) (hi : PI X etg eiter (tI X.K Γ ec W it)) (ok : BlkOk X.N X.env.scope scope own)
    (hsub : ∀ j ∈ slotsT tg, j ∈ own.map (·.2)) (hsub1 : ∀ j ∈ slotsT tg1, j ∈ own.map (·.2)) (hne : nb elt = true) (hni : nbI it1 = true)
    (hg : ∀ (s : Shared) (H : Hp) (C : Addr) (cl : List (Str × Addr)) (fp : List Addr), PG (X.blk s H scope (compEnvC scope cl C X.env) fp) etg (tG X.K tg)) (ht : ∀ (s : Shared) (H : Hp) (C : Addr) (cl : List (Str × Addr)) (fp : List Addr), PTs (X.blk s H scope (compEnvC scope cl C X.env) fp) eifs (tC X.K Γ ec W0 ifs))
    (hi1 : ∀ (s : Shared) (H : Hp) (C : Addr) (cl : List (Str × Addr)) (fp : List Addr), PI (X.blk s H scope (compEnvC scope cl C X.env) fp) etg1 eiter1 (tI X.K Γ ec W0 it1))
    (hg1 : ∀ (s : Shared) (H : Hp) (C : Addr) (cl : List (Str × Addr)) (fp : List Addr), PG (X.blk s H scope (compEnvC scope cl C X.env) fp) etg1 (tG X.K tg1)) (ht1 : ∀ (s : Shared) (H : Hp) (C : Addr) (cl : List (Str × Addr)) (fp : List Addr), PTs (X.blk s H scope (compEnvC scope cl C X.env) fp) eifs1 (tC X.K Γ ec W0 ifs1))
    (he : ∀ (s : Shared) (H : Hp) (C : Addr) (cl : List (Str × Addr)) (fp : List Addr), PE (X.blk s H scope (compEnvC scope cl C X.env) fp) eelt (tE X.K Γ ec W0 elt)) (hs : ∀ x, foldedSetIterable eiter X.env x = pure x) (hs1 : ∀ env x, foldedSetIterable eiter1 env x = pure x) :
    SE X Γ ec W (.comp2 own elt tg it ifs tg1 it1 ifs1) (.ListComp eelt [⟨etg, eiter, eifs, 0⟩, ⟨etg1, eiter1, eifs1, 0⟩] scope pos) ∧
    ∀ σ H Q, tE X.K Γ ec W (.comp2 own elt tg it ifs tg1 it1 ifs1) σ H Q → tLc2 (tI X.K Γ ec W it) (tG X.K tg) (tC X.K Γ ec W0 ifs) (tI X.K Γ ec W0 it1) (tG X.K tg1) (tC X.K Γ ec W0 ifs1) (tE X.K Γ ec W0 elt) (own.map (·.2)) (slotsT tg1) σ H Q := by
  have main : ∀ σ H Q, tE X.K Γ ec W (.comp2 own elt tg it ifs tg1 it1 ifs1) σ H Q → tLc2 (tI X.K Γ ec W it) (tG X.K tg) (tC X.K Γ ec W0 ifs) (tI X.K Γ ec W0 it1) (tG X.K tg1) (tC X.K Γ ec W0 ifs1) (tE X.K Γ ec W0 elt) (own.map (·.2)) (slotsT tg1) σ H Q := by
    intro σ H Q h
    obtain ⟨F, O, ρ, P, E, e, w, hP, hE⟩ := h
    unfold wpE at w
    refine ⟨F, O, ρ, _, E, e, w, fun ds hfold J H1 s1 wk => ?_, hE⟩
    obtain ⟨G, Y, walk, hGR, hY⟩ := wk.1
    intro D hD
    have e1 := e.stp s1
    have ndO : ¬ O D := e1.dom.fresh hD
    have nO0 : ¬ F.O0 D := fun q => ndO (e1.sub D q)
    have nda : F.dA ≠ some D := e1.ndo nO0
    generalize hvs : own.map (·.2) = vs at *
    generalize hO' : (fun a => O a ∨ a = D) = O'
    have oD : O' D := by rw [← hO']; exact .inr rfl
    have oO : ∀ {b : Addr}, ¬ O' b → ¬ O b := fun {b} n q => n (by rw [← hO']; exact .inl q)
    have oN : ∀ {b : Addr} {o : HO}, H1 b = some o → ¬ O b → ¬ O' b := fun {b o} q m z => by
      rw [← hO'] at z
      rcases z with z | z
      · exact m z
      · rw [z, hD] at q; cases q
    let step1 : List PyData → (List PyData → Prop) → Rho → PyData → List PyData → (List PyData → Prop) → Prop := fun _ _ ρ1 e acc k => bindT tg1 e (wipeR ρ1 (slotsT tg1)) fun ρ2 => wpC Γ ifs1 ρ2 (fun c => if c = true then wpE Γ elt ρ2 (fun y => acc.length < sizeLine ∧ k (acc ++ [y])) nE else k acc) nE
    let step : PyData → List PyData → (List PyData → Prop) → Prop := fun d acc k => bindT tg d (wipeR ρ vs) fun ρ1 => wpC Γ ifs ρ1 (fun c => if c = true then wpI Γ it1 ρ1 (fun es => foldW (step1 es k ρ1) es acc k) nE else k acc) nE
    have hfold : foldW step ds [] fun acc => P (.list acc) := hfold
    -- the state of the outer walk
    let Pv : Nat → Hp → Prop := fun i H' => ∃ xs acc, EnvR X.K F O' H' (L2.wipe σ vs) (wipeR ρ vs) ∧ NoSlot (L2.wipe σ vs) (wipeR ρ vs) D ∧ (∀ b o, F.dA ≠ some b → H1 b = some o → H' b = some o) ∧ H' D = some (.lst xs) ∧ DrA X.K O' H' xs acc ∧ foldW step (ds.drop i) acc fun acc => P (.list acc)
    have later : ∀ {i : Nat} {H2 : Hp}, Pv i H2 → Rc F O H1 O' H2 := fun {i H2} h => by
      obtain ⟨xs, acc, _, _, k, _⟩ := h
      exact ⟨fun b o q m => oN q m, k⟩
    -- a touch of D
    have touchA : ∀ {H4 : Hp} {xs : List V} {zs : List V} {acc : List PyData}, DrA X.K O' H4 zs acc → DrA X.K O' (upd H4 D (.lst xs)) zs acc := fun {H4 xs zs acc} h =>
      DrA.stay (fun _ _ _ n => n) (fun b o m q => by
        rw [upd_ne (fun z => m (by rw [z]; exact oD))]
        exact q) _ _ h
    have touchK : ∀ {H4 : Hp} {xs : List V}, (∀ b o, F.dA ≠ some b → H1 b = some o → H4 b = some o) → ∀ b o, F.dA ≠ some b → H1 b = some o → (upd H4 D (.lst xs)) b = some o := fun {H4 xs} k b o n q => by
      rw [upd_ne (fun z => by rw [z, hD] at q; cases q)]
      exact k b o n q
    refine ⟨fun i m H' => m = ds.length - i ∧ i ≤ ds.length ∧ Pv i H', ⟨ds.length, rfl, Nat.zero_le _, ?_⟩, fun i m H' hW => ?_⟩
    · obtain ⟨g1, g2⟩ := (e1.wipe vs).grow (xs := []) hD
      rw [hO'] at g1
      exact ⟨[], [], g1, g2, fun b o _ q => same_upd hD b o q, upd_same, .nil, by rw [List.drop_zero]; exact hfold⟩
    · obtain ⟨rfl, hi', hv⟩ := hW
      by_cases hlt : i < ds.length
      · refine .inr ⟨walk.goes i H' hlt (hGR _ _ (later hv)), fun H2 => Pv (i + 1) H2, fun H2 p' => ⟨ds.length - (i + 1), by omega, rfl, hlt, p'⟩, fun x H'' y => ?_⟩
        obtain ⟨sm, d, hd, hdr⟩ := hY _ _ i x H'' (later hv) (by obtain ⟨xs, acc, e2, _⟩ := hv; exact e2.dom) hlt (walk.yields i H' x H'' hlt (hGR _ _ (later hv)) y)
        obtain ⟨xs, acc, e2, n2, k2, hx, hA, hf⟩ := hv
        have st2 : Stp X.K F O' H' H'' := Stp.same e2 sm
        have e3 := e2.stp st2
        have edrop : ds.drop i = d :: ds.drop (i + 1) := by
          obtain ⟨h1, h2⟩ := List.getElem?_eq_some_iff.mp hd
          rw [List.drop_eq_getElem_cons h1, h2]
        rw [edrop] at hf
        unfold foldW at hf
        have hf' : bindT tg d (wipeR ρ vs) fun ρ1 => wpC Γ ifs ρ1 (fun c => if c = true then wpI Γ it1 ρ1 (fun es => foldW (step1 es (fun _ => True) ρ1) es acc (fun acc' => foldW step (ds.drop (i + 1)) acc' fun acc => P (.list acc))) nE else foldW step (ds.drop (i + 1)) acc fun acc => P (.list acc)) nE := hf
        refine ⟨F, O', wipeR ρ vs, d, _, e3, hdr, bindT_ow tg d _ _ hf', fun ρ1 h1 σ1 on e4 => ?_⟩
        have nS1 : NoSlot σ1 ρ1 D := n2.bind on h1.2
        refine ⟨(wipe_only on hsub).trans wipe_idem, F, O', ρ1, _, nE, e4, h1.1, fun b hb H3 s3 => ?_, fun x hx => hx.elim⟩
        have sA := st2.trans s3
        have hx3 : H3 D = some (.lst xs) := s3.keep _ _ nda (sm _ _ hx)
        have hA3 : DrA X.K O' H3 xs acc := (hA.same sm).stp e3 s3
        have k3 : ∀ b o, F.dA ≠ some b → H1 b = some o → H3 b = some o := fun b o n q => s3.keep b o n (sm b o (k2 b o n q))
        cases b with
        | false =>
          dsimp only at hb ⊢
          rw [if_neg Bool.false_ne_true] at hb ⊢
          exact ⟨xs, acc, e3.stp s3, n2, k3, hx3, hA3, hb⟩
        | true =>
          dsimp only at hb ⊢
          rw [if_pos rfl] at hb ⊢
          refine ⟨F, O', ρ1, _, nE, e4.stp s3, hb, fun es hes J1 H4 s4 wk1 => ?_, fun x hx => hx.elim⟩
          obtain ⟨G1, Y1, walk1, hGR1, hY1⟩ := wk1.2 hni
          let Pw : Nat → Hp → Prop := fun j H5 => ∃ xs acc, EnvR X.K F O' H5 (L2.wipe σ vs) (wipeR ρ vs) ∧ EnvR X.K F O' H5 σ1 ρ1 ∧ (∀ b o, F.dA ≠ some b → H1 b = some o → H5 b = some o) ∧ Rf O' H4 O' H5 ∧ H5 D = some (.lst xs) ∧ DrA X.K O' H5 xs acc ∧
            foldW (step1 es (fun _ => True) ρ1) (es.drop j) acc (fun acc' => foldW step (ds.drop (i + 1)) acc' fun acc => P (.list acc))
          refine ⟨fun j m H5 => m = es.length - j ∧ j ≤ es.length ∧ Pw j H5, ⟨es.length, rfl, Nat.zero_le _, ?_⟩, fun j m H5 hW => ?_⟩
          · exact ⟨xs, acc, (e3.stp s3).stp s4, (e4.stp s3).stp s4, fun b o n q => s4.keep b o n (k3 b o n q), fun b o n q => ⟨n, q⟩, s4.keep _ _ nda hx3, hA3.stp (e3.stp s3) s4, by rw [List.drop_zero]; exact hes⟩
          · obtain ⟨rfl, hj', ys, bcc, f1, f2, f3, f4, f5, f6, f7⟩ := hW
            by_cases hlt1 : j < es.length
            · refine .inr ⟨walk1.goes j H5 hlt1 (hGR1 _ _ f4), fun H6 => Pw (j + 1) H6, fun H6 p' => ⟨es.length - (j + 1), by omega, rfl, hlt1, p'⟩, fun x1 H6 y1 => ?_⟩
              obtain ⟨sm1, d1, hd1, hdr1⟩ := hY1 _ _ j x1 H6 f4 f1.dom hlt1 (walk1.yields j H5 x1 H6 hlt1 (hGR1 _ _ f4) y1)
              have st5 : Stp X.K F O' H5 H6 := Stp.same f1 sm1
              have edrop1 : es.drop j = d1 :: es.drop (j + 1) := by
                obtain ⟨h1, h2⟩ := List.getElem?_eq_some_iff.mp hd1
                rw [List.drop_eq_getElem_cons h1, h2]
              rw [edrop1] at f7
              unfold foldW at f7
              have f7' : bindT tg1 d1 (wipeR ρ1 (slotsT tg1)) fun ρ2 => wpC Γ ifs1 ρ2 (fun c => if c = true then wpE Γ elt ρ2 (fun y => bcc.length < sizeLine ∧ foldW (step1 es (fun _ => True) ρ1) (es.drop (j + 1)) (bcc ++ [y]) (fun acc' => foldW step (ds.drop (i + 1)) acc' fun acc => P (.list acc))) nE else foldW (step1 es (fun _ => True) ρ1) (es.drop (j + 1)) bcc (fun acc' => foldW step (ds.drop (i + 1)) acc' fun acc => P (.list acc))) nE := f7
              -- what the next turn wants from a later heap
              have stay : ∀ {H8 : Hp}, Stp X.K F O' H6 H8 → EnvR X.K F O' H8 (L2.wipe σ vs) (wipeR ρ vs) ∧ EnvR X.K F O' H8 σ1 ρ1 ∧ (∀ b o, F.dA ≠ some b → H1 b = some o → H8 b = some o) ∧ Rf O' H4 O' H8 ∧ H8 D = some (.lst ys) ∧ DrA X.K O' H8 ys bcc := fun {H8} s8 =>
                ⟨(f1.stp st5).stp s8, (f2.stp st5).stp s8, fun b o n q => s8.keep b o n (sm1 b o (f3 b o n q)), fun b o n q => ⟨n, s8.keep b o (f1.nd n) (sm1 b o (f4 b o n q).2)⟩, s8.keep _ _ nda (sm1 _ _ f5), (f6.same sm1).stp (f1.stp st5) s8⟩
              refine ⟨F, O', wipeR ρ1 (slotsT tg1), d1, _, (f2.stp st5).wipe (slotsT tg1), hdr1, f7', fun ρ2 h2 σ2 on2 e5 => ?_⟩
              refine ⟨(wipe_only on2 fun _ h => h).trans wipe_idem, F, O', ρ2, _, nE, e5, h2, fun c hc' H7 s7 => ?_, fun x hx => hx.elim⟩
              cases c with
              | true =>
                dsimp only at hc' ⊢
                rw [if_pos rfl] at hc' ⊢
                refine ⟨F, O', ρ2, _, nE, e5.stp s7, hc', fun yd hyd yv H8 s8 r8 => ?_, fun x hx => hx.elim⟩
                obtain ⟨g1, g2, g3, g4, g5, g6⟩ := stay (s7.trans s8)
                have nd2 : NoSlot σ1 ρ1 D := nS1
                refine ⟨ys, g5, by rw [g6.length]; exact hyd.1, ys ++ [yv], bcc ++ [yd], g1.touch n2 oD nO0, g2.touch nd2 oD nO0, touchK g3, fun b o n q => ⟨n, ?_⟩, upd_same, touchA (g6.append (.cons (r8.n hne) .nil)), hyd.2⟩
                rw [upd_ne (fun z => n (by rw [z]; exact oD))]
                exact (g4 b o n q).2
              | false =>
                dsimp only at hc' ⊢
                rw [if_neg Bool.false_ne_true] at hc' ⊢
                obtain ⟨g1, g2, g3, g4, g5, g6⟩ := stay s7
                exact ⟨ys, bcc, g1, g2, g3, g4, g5, g6, hc'⟩
            · have ej : j = es.length := by omega
              subst ej
              refine .inl ⟨walk1.stops H5 (hGR1 _ _ f4), ?_⟩
              rw [List.drop_length] at f7
              exact ⟨ys, bcc, f1, n2, f3, f5, f6, f7⟩
      · have ei : i = ds.length := by omega
        subst ei
        refine .inl ⟨walk.stops H' (hGR _ _ (later hv)), ?_⟩
        obtain ⟨xs, acc, e2, n2, k2, hx, hA, hf⟩ := hv
        rw [List.drop_length] at hf
        have hA' : DrA X.K O H' xs acc := DrA.stay (fun _ _ _ n q => n (by rw [← hO']; exact .inl q)) (fun _ _ _ q => q) _ _ hA
        have hdr : Dr X.K O H' (.ref D) (.list acc) := .lst hx ndO hA'
        refine hP _ hf _ H' ⟨fun b o n q => k2 b o n (s1.keep b o n q), fun a ha => ?_⟩ ⟨.inl hdr, fun _ => hdr, fun _ ds' eq => ?_⟩
        · obtain ⟨h1, cells, i', cur, seed, q1, q2, q3, q4⟩ := e2.drw a ha
          exact ⟨cells, i', cur, seed, q1, q2, oO q3, q4⟩
        · cases eq
          exact ⟨D, xs, rfl, s1.free e hD, hx, by rw [hO']; exact hA⟩
  exact ⟨PE.conseq (pe_lc2 hc nd hi ok hsub1 hg ht hi1 hg1 ht1 he hs hs1) main, main⟩
/-! len(set(numbers)) -/
def tSetLen (K : PySem.W.Frag) (ta : TE) : TE := fun σ H Q => ta σ H fun x H1 => ∃ (l : Addr) (ns : List Int), x = .ref l ∧ SqL K H1 l (ns.map V.int) ∧ ns.length ≤ 4000 ∧ Q (.int (dstI ns)) H1
theorem pe_setLen {a : Expr} {ta : TE} {p p2 q pos : Pos} (hg : Gl X "len") (hm : X.mg "len" = none) (hg2 : Gl X "set") (hm2 : X.mg "set" = none) (ha : PE X a ta) (hc : X.calm = true)
    (na : starEach [a] X.env = (false, eval a X.env) :: starEach [] X.env) : PE X (.Call (.Name "len" p) [.Call (.Name "set" p2) [a] [] q] [] pos) (tSetLen X.K ta) := by
  refine ⟨fun pins s σ H Q I h => ?_⟩
  refine Call_ (ld_blt I hg hm boot_len (PyProof.Rows.callWith_builtin1 (PyProof.Rows.args_cons ?_ rfl) rfl rfl))
  refine Call_ (ld_blt I hg2 hm2 boot_set (PyProof.Rows.callWith_type1 (PyProof.Rows.args_cons (thn (ha.run pins s σ H _ I h) fun v s1 w1 => PyProof.Rows.args_nil ?_) na) na rfl))
  obtain ⟨x, H1, I1, r1, l, ns, rfl, hq, hl, q1⟩ := w1
  cases r1
  obtain ⟨its, r, pl, hz⟩ := I1.list hq
  have lenI : its.toArray.size = ns.length := by rw [List.size_toArray, ← r.length, List.length_map]
  have hInts : PyProof.Rows.IntsAre its.toArray.toList ns := by simpa using RZ.intsAre_vals r
  refine call_set_list (I1.ok.hd hc) pl.isList hInts (by rw [lenI]; unfold scanBound; omega) fun h' tk hS hk => PyProof.Rows.args_nil ?_
  rw [lenI] at hS
  have le : (PyProof.Rows.firstMet (fun i => ns.getD i 0) ns.length).length ≤ ns.length := PyProof.Rows.firstMet_length_le _ _
  obtain ⟨o, es, ep, t, ho, hex, hd, _, _, _, hf, hn⟩ := hS
  have I2 : Inv X pins σ H1 { s1 with heap := h', toks := tk } := I1.kept fun b o e => hk b o (Heap.lt_size e) e
  refine call_len_set ho hex hd hf (by rw [hn] <;> omega) ⟨.int (dstI ns), H1, I2.tok _, ⟨_, by rw [hn]; rfl⟩, q1⟩
theorem snd_setlen {a : Ex} {ea : Expr} {p p2 q pos : Pos} (hg : Gl X "len") (hm : X.mg "len" = none) (hg2 : Gl X "set") (hm2 : X.mg "set" = none) (ha : SE X Γ ec W a ea) (hc : X.calm = true) (hs : starred ea = false) :
    SE X Γ ec W (.setlen a) (.Call (.Name "len" p) [.Call (.Name "set" p2) [ea] [] q] [] pos) := by
  refine PE.conseq (pe_setLen hg hm hg2 hm2 ha hc (star_cons hs)) fun σ H Q h => ?_
  obtain ⟨F, O, ρ, P, E, e, w, hP, hE⟩ := h
  unfold wpE at w
  refine ⟨F, O, ρ, _, E, e, w, fun d hd v H1 s1 r1 => ?_, hE⟩
  unfold setlenW at hd
  split at hd
  · obtain ⟨ns, en, hd⟩ := optQ_iff hd
    obtain ⟨b, xs, rfl, h2, h3⟩ := r1.b.lst
    rw [intsOf_eq en] at h3
    rw [h3.ints] at h2
    exact ⟨b, ns, rfl, SqL.of h2, hd.1, hP _ hd.2 _ _ s1 ⟨.inl (.int _), fun _ => .int _, fun z => by simp [frs] at z⟩⟩
  · exact hd.elim
end
end DL

set_option Elab.async false
set_option linter.all false
set_option maxRecDepth 100000
set_option maxHeartbeats 8000000
namespace DL
open PySem PySem.Spec PyProof.Rows L2

/-! ### every expression of the grammar -/
structure At (G : Glb) (S : Sx) (X : Cx) : Prop where
  ok : XOk G X
  N : X.N = S.N
  sc : X.env.scope = S.sc
  fn : X.fn = S.fn
section
variable {G : Glb} {S : Sx} {X : Cx} {W : WX}
theorem At.vis (h : At G S X) {x : Str} (v : visB S.sc x = true) : Vis X.env.scope x := by
  rw [h.sc]
  unfold visB at v
  split at v
  · rename_i q; exact .inl q
  · rename_i q; exact .inr (.inl q)
  · rename_i q; exact .inr (.inr q)
  · cases v
theorem At.gl (h : At G S X) {x : Str} (v : glB S.sc x = true) : Gl X x ∧ (x == ("__debug__" : Str)) = false := by
  unfold glB at v
  split at v
  · rename_i q
    refine ⟨?_, by simpa using v⟩
    show X.env.scope.names.lookup x = _
    rw [h.sc]
    exact q
  · cases v
theorem nm_of {x : Str} (h : nmB x = true) : (x == ("__debug__" : Str)) = false ∧ (x == ("__classdict__" : Str)) = false := by
  unfold nmB at h
  rw [Bool.and_eq_true] at h
  exact ⟨by simpa using h.1, by simpa using h.2⟩
theorem At.blk (h : At G S X) (s : Shared) (H : Hp) (scope : Scope) (C : Addr) (cl : List (Str × Addr)) (fp : List Addr) : At G (blkS S scope) (X.blk s H scope (compEnvC scope cl C X.env) fp) where
  ok := ⟨h.ok.prog, h.ok.w, h.ok.K, h.ok.mg, h.ok.base, h.ok.calm, h.ok.room, h.ok.nd⟩
  N := h.N
  sc := by
    show relS scope X.env.scope = relS scope S.sc
    rw [h.sc]
  fn := rfl
theorem mg_bi (g : GOk G) (h : At G S X) (b : Bi) (hb : b ≠ .gcd) : X.mg b.nm = none := by rw [h.ok.mg]; exact g.bi b hb
theorem snd_bi {Γ : Gam} {ec : Str → Value} (g : GOk G) (h : At G S X) (b : Bi) {es : Exs} {e0 : Expr} {eas : List Expr} {p pos : Pos} (hgl : glB S.sc b.nm = true) (ha : SA X Γ ec W es (e0 :: eas)) (hst : (e0 :: eas).all (fun e => !starred e) = true) :
    SE X Γ ec W (.bi b es) (.Call (.Name b.nm p) (e0 :: eas) [] pos) := by
  obtain ⟨hg, hdb⟩ := h.gl hgl
  have hu := h.ok.hu
  have hc := h.ok.calm
  cases b with
  | len => exact snd_callB rfl cr_dLen hg (mg_bi g h .len (by decide)) PySem.boot_len ha hst (by decide) hdb
  | tuple => exact snd_callT rfl cr_dTuple hg (mg_bi g h .tuple (by decide)) PyProof.Rows.boot_tuple ha hst (by decide) hdb
  | list => exact snd_callT rfl cr_dList hg (mg_bi g h .list (by decide)) PyProof.Rows.boot_list ha hst (by decide) hdb
  | sum => exact snd_callB rfl (cr_dSum hc) hg (mg_bi g h .sum (by decide)) PyProof.Rows.boot_sum ha hst (by decide) hdb
  | any => exact snd_callB rfl (cr_dAny hc) hg (mg_bi g h .any (by decide)) PyProof.Rows.boot_any ha hst (by decide) hdb
  | all => exact snd_callB rfl (cr_dAll hc) hg (mg_bi g h .all (by decide)) PyProof.Rows.boot_all ha hst (by decide) hdb
  | abs => exact snd_callB rfl cr_dAbs hg (mg_bi g h .abs (by decide)) PyProof.Rows.boot_abs ha hst (by decide) hdb
  | min => exact snd_callB rfl (cr_dMin2 hc) hg (mg_bi g h .min (by decide)) PyProof.Rows.boot_min ha hst (by decide) hdb
  | max => exact snd_callB rfl (cr_dMax2 hc) hg (mg_bi g h .max (by decide)) PyProof.Rows.boot_max ha hst (by decide) hdb
  | int => exact snd_callT rfl cr_dInt hg (mg_bi g h .int (by decide)) PyProof.Rows.boot_int ha hst (by decide) hdb
  | str => exact snd_callT rfl cr_dStr hg (mg_bi g h .str (by decide)) PyProof.Rows.boot_str ha hst (by decide) hdb
  | gcd => exact snd_gcd hg (by rw [h.ok.mg]; exact g.gcd) ha hst hdb
  | sorted => exact snd_callB rfl (cr_dSorted hu) hg (mg_bi g h .sorted (by decide)) PyProof.Rows.boot_sorted ha hst (by decide) hdb
theorem inFs_of {Γ : Gam} {f : Str} (h : inFs Γ f = true) : f ∈ Γ.fs := by
  unfold inFs at h
  rw [List.any_eq_true] at h
  obtain ⟨x, h1, h2⟩ := h
  have e := of_decide_eq_true h2
  subst e
  exact h1
theorem lastMarks_of {op op2 : CmpOp} {b c : Expr} (h : isSet c = false) : lastMarks [op, op2] [b, c] = false := by
  show behindInMarks op2 c = false
  exact nomarkS h
/-- a test's forms -/
structure SndE (X : Cx) (Γ : Gam) (ec : Str → Value) (W : WX) (a : Ex) (e : Expr) : Prop where
  pe : SE X Γ ec W a e
  pt : tstB e = true → PT X e (tT X.K Γ ec W a)
  pw : ∀ op vs pos, e = .BoolOp op vs pos → tstB e = true → PW X e (tT X.K Γ ec W a)
theorem SndE.plain {Γ : Gam} {ec : Str → Value} {a : Ex} {e : Expr} (h : SE X Γ ec W a e) (p : plainT e = true) : SndE X Γ ec W a e :=
  ⟨h, fun _ => snt_plain h (plainTe p), fun op vs pos q => by subst q; simp [plainT] at p⟩
theorem At.tgt (h : At G S X) {t : Tg} {e : Expr} (q : mtT S t e = true) : PG X e (tG X.K t) := sndT h.N h.sc h.fn h.ok.calm h.ok.nd t e q
theorem mtT_tup {S : Sx} {tg : Tg} {t : Expr} (h : mtT S tg t = true) (ht : isTup tg = true) : ∃ elts kk tp, t = .Tuple elts kk tp := by
  cases tg with
  | n i => simp [isTup] at ht
  | t ts =>
    cases t with
    | Tuple es k p => exact ⟨es, k, p, rfl⟩
    | _ => simp [mtT] at h
theorem mtI_set {Γ : Gam} {tup : Bool} {it : Ir} {e : Expr} (h : mtI Γ S tup it e = true) : isSet e = false := by
  cases it with
  | seq a => exact mtE_set (by simpa only [mtI] using h)
  | _ =>
    cases e with
    | Set v k p => simp [mtI] at h
    | _ => rfl
theorem snc_no {Γ : Gam} {ec : Str → Value} : PTs X [] (tC X.K Γ ec W .no) := ⟨fun pins s σ H Q I h => pts_nil.run pins s σ H Q I (by
  obtain ⟨F, O, ρ, P, E, e, w, hP, hE⟩ := h
  exact hP true w H (Stp.refl e))⟩
theorem snc_so {Γ : Gam} {ec : Str → Value} {a : Ex} {c : Expr} (ht : PT X c (tT X.K Γ ec W a)) : PTs X [c] (tC X.K Γ ec W (.so a)) := ⟨fun pins s σ H Q I h => (pts_one ht).run pins s σ H Q I (by
  obtain ⟨F, O, ρ, P, E, e, w, hP, hE⟩ := h
  unfold wpC at w
  refine ⟨F, O, ρ, _, E, e, w, fun d hd => ?_, hE⟩
  obtain ⟨c, hc, q⟩ := optQ_iff hd
  exact ⟨c, hc, fun H' s' => hP c q H' s'⟩)⟩
theorem own_of {vs : List (Str × Nat)} {ts : List Nat} (h : (ts.all fun j => (vs.map (·.2)).contains j) = true) : ∀ j ∈ ts, j ∈ vs.map (·.2) := fun j hj => by
  have := List.all_eq_true.mp h j hj
  simpa using this
end
set_option maxHeartbeats 32000000 in
mutual
theorem sndE {G : Glb} (g : GOk G) : ∀ (a : Ex) (e : Expr) (X : Cx) (S : Sx) (W : WX), At G S X → Takes X W → mtE G.Γ S a e = true → SndE X G.Γ G.ec W a e
  | .v i, e, X, S, W, at_, tk, h => by
    cases e with
    | Name x p =>
      simp only [mtE, Bool.and_eq_true, decide_eq_true_eq] at h
      obtain ⟨h1, h2⟩ := nm_of h.2
      exact .plain (snd_v (by rw [at_.N]; exact h.1.1) (at_.vis h.1.2) h1 h2) rfl
    | _ => simp [mtE] at h
  | .b i, e, X, S, W, at_, tk, h => by
    cases e with
    | Name x p =>
      simp only [mtE, Bool.and_eq_true, decide_eq_true_eq] at h
      obtain ⟨h1, h2⟩ := nm_of h.2
      exact .plain (snd_b (by rw [at_.N]; exact h.1.1) (at_.vis h.1.2) h1 h2) rfl
    | _ => simp [mtE] at h
  | .int i, e, X, S, W, at_, tk, h => by
    cases e with
    | Constant c k p =>
      cases c with
      | int j => simp only [mtE, decide_eq_true_eq] at h; subst h; exact .plain snd_int rfl
      | _ => simp [mtE] at h
    | _ => simp [mtE] at h
  | .bl i, e, X, S, W, at_, tk, h => by
    cases e with
    | Constant c k p =>
      cases c with
      | bool j => simp only [mtE, beq_iff_eq] at h; subst h; exact .plain snd_bl rfl
      | _ => simp [mtE] at h
    | _ => simp [mtE] at h
  | .non, e, X, S, W, at_, tk, h => by
    cases e with
    | Constant c k p =>
      cases c with
      | none => exact .plain snd_non rfl
      | _ => simp [mtE] at h
    | _ => simp [mtE] at h
  | .str i, e, X, S, W, at_, tk, h => by
    cases e with
    | Constant c k p =>
      cases c with
      | str j => simp only [mtE, decide_eq_true_eq] at h; subst h; exact .plain snd_str rfl
      | _ => simp [mtE] at h
    | _ => simp [mtE] at h
  | .g y, e, X, S, W, at_, tk, h => by
    cases e with
    | Name x p =>
      simp only [mtE, Bool.and_eq_true, decide_eq_true_eq] at h
      obtain ⟨⟨rfl, h1⟩, h2⟩ := h
      obtain ⟨d, hk⟩ := Option.isSome_iff_exists.mp h1
      obtain ⟨hg, hdb⟩ := at_.gl h2
      obtain ⟨u, v, q1, q2, q3⟩ := g.gl x d hk
      exact .plain (snd_g hk hg (by rw [at_.ok.mg]; exact q1) q2 (by rw [at_.ok.K]; exact q3) hdb) rfl
    | _ => simp [mtE] at h
  | .bin op a b, e, X, S, W, at_, tk, h => by
    cases e with
    | BinOp ea op' eb p =>
      simp only [mtE, Bool.and_eq_true, decide_eq_true_eq] at h
      obtain ⟨⟨rfl, h1⟩, h2⟩ := h
      exact .plain (snd_bin (sndE g a ea X S W at_ tk h1).pe (sndE g b eb X S W at_ tk h2).pe) rfl
    | _ => simp [mtE] at h
  | .neg a, e, X, S, W, at_, tk, h => by
    cases e with
    | UnaryOp op ea p =>
      cases op with
      | USub => exact .plain (snd_neg (sndE g a ea X S W at_ tk (by simpa only [mtE] using h)).pe) rfl
      | _ => simp [mtE] at h
    | _ => simp [mtE] at h
  | .cmp op a b, e, X, S, W, at_, tk, h => by
    cases e with
    | Compare ea ops ebs p =>
      match ops, ebs, h with
      | [op'], [eb], h =>
        simp only [mtE, Bool.and_eq_true, decide_eq_true_eq] at h
        obtain ⟨⟨rfl, h1⟩, h2⟩ := h
        have i1 := sndE g a ea X S W at_ tk h1
        have i2 := sndE g b eb X S W at_ tk h2
        exact ⟨snd_cmp at_.ok.hu i1.pe i2.pe (nomarkS (mtE_set h2)), fun _ => snt_cmp at_.ok.hu i1.pe i2.pe (nomarkS (mtE_set h2)), fun _ _ _ q => by cases q⟩
      | [], _, h => simp [mtE] at h
      | [_], [], h => simp [mtE] at h
      | [_], _ :: _ :: _, h => simp [mtE] at h
      | _ :: _ :: _, _, h => simp [mtE] at h
    | _ => simp [mtE] at h
  | .chain op op2 a b c, e, X, S, W, at_, tk, h => by
    cases e with
    | Compare ea ops ebs p =>
      match ops, ebs, h with
      | [op', op2'], [eb, ec], h =>
        simp only [mtE, Bool.and_eq_true, decide_eq_true_eq] at h
        obtain ⟨⟨⟨⟨rfl, rfl⟩, h1⟩, h2⟩, h3⟩ := h
        have i1 := sndE g a ea X S W at_ tk h1
        have i2 := sndE g b eb X S W at_ tk h2
        have i3 := sndE g c ec X S W at_ tk h3
        exact ⟨snd_chain at_.ok.hu i1.pe i2.pe i3.pe (lastMarks_of (mtE_set h3)), fun _ => snt_chain at_.ok.hu i1.pe i2.pe i3.pe (lastMarks_of (mtE_set h3)), fun _ _ _ q => by cases q⟩
      | [], _, h => simp [mtE] at h
      | [_], _, h => simp [mtE] at h
      | [_, _], [], h => simp [mtE] at h
      | [_, _], [_], h => simp [mtE] at h
      | [_, _], _ :: _ :: _ :: _, h => simp [mtE] at h
      | _ :: _ :: _ :: _, _, h => simp [mtE] at h
    | _ => simp [mtE] at h
  | .and a b, e, X, S, W, at_, tk, h => by
    cases e with
    | BoolOp op vs p =>
      match op, vs, h with
      | .And, ea :: eb :: r, h =>
        simp only [mtE, Bool.and_eq_true] at h
        have i1 := sndE g a ea X S W at_ tk h.1
        cases r with
        | nil =>
          have i2 := sndE g b eb X S W at_ tk h.2
          have key : tstB (.BoolOp .And [ea, eb] p) = true → PW X (.BoolOp .And [ea, eb] p) (tT X.K G.Γ G.ec W (.and a b)) := fun q => by
            simp only [tstB, tstsB, Bool.and_eq_true] at q
            exact PW.conseq (pw_and (i1.pt q.1) (pw_and1 (i2.pt q.2.1))) fun σ H Q z => tT_and z
          exact ⟨snd_and i1.pe (snd_one i2.pe), fun q => (key q).pt, fun op' vs' p' q1 q2 => key q2⟩
        | cons c r' =>
          have i2 := sndE g b (.BoolOp .And (eb :: c :: r') p) X S W at_ tk h.2
          have key : tstB (.BoolOp .And (ea :: eb :: c :: r') p) = true → PW X (.BoolOp .And (ea :: eb :: c :: r') p) (tT X.K G.Γ G.ec W (.and a b)) := fun q => by
            have q' := q
            simp only [tstB, tstsB, Bool.and_eq_true] at q
            exact PW.conseq (pw_and (i1.pt q.1) (i2.pw _ _ _ rfl (by simp only [tstB, tstsB, Bool.and_eq_true]; exact q.2))) fun σ H Q z => tT_and z
          exact ⟨snd_and i1.pe i2.pe, fun q => (key q).pt, fun op' vs' p' q1 q2 => key q2⟩
      | .And, [], h => simp [mtE] at h
      | .And, [_], h => simp [mtE] at h
      | .Or, _, h => simp [mtE] at h
    | _ => simp [mtE] at h
  | .or a b, e, X, S, W, at_, tk, h => by
    cases e with
    | BoolOp op vs p =>
      match op, vs, h with
      | .Or, ea :: eb :: r, h =>
        simp only [mtE, Bool.and_eq_true] at h
        have i1 := sndE g a ea X S W at_ tk h.1
        cases r with
        | nil =>
          have i2 := sndE g b eb X S W at_ tk h.2
          have key : tstB (.BoolOp .Or [ea, eb] p) = true → PW X (.BoolOp .Or [ea, eb] p) (tT X.K G.Γ G.ec W (.or a b)) := fun q => by
            simp only [tstB, tstsB, Bool.and_eq_true] at q
            exact PW.conseq (pw_or (i1.pt q.1) (pw_or1 (i2.pt q.2.1))) fun σ H Q z => tT_or z
          exact ⟨snd_or i1.pe (snd_one i2.pe), fun q => (key q).pt, fun op' vs' p' q1 q2 => key q2⟩
        | cons c r' =>
          have i2 := sndE g b (.BoolOp .Or (eb :: c :: r') p) X S W at_ tk h.2
          have key : tstB (.BoolOp .Or (ea :: eb :: c :: r') p) = true → PW X (.BoolOp .Or (ea :: eb :: c :: r') p) (tT X.K G.Γ G.ec W (.or a b)) := fun q => by
            have q' := q
            simp only [tstB, tstsB, Bool.and_eq_true] at q
            exact PW.conseq (pw_or (i1.pt q.1) (i2.pw _ _ _ rfl (by simp only [tstB, tstsB, Bool.and_eq_true]; exact q.2))) fun σ H Q z => tT_or z
          exact ⟨snd_or i1.pe i2.pe, fun q => (key q).pt, fun op' vs' p' q1 q2 => key q2⟩
      | .Or, [], h => simp [mtE] at h
      | .Or, [_], h => simp [mtE] at h
      | .And, _, h => simp [mtE] at h
    | _ => simp [mtE] at h
  | .not a, e, X, S, W, at_, tk, h => by
    cases e with
    | UnaryOp op ea p =>
      cases op with
      | Not =>
        have i1 := sndE g a ea X S W at_ tk (by simpa only [mtE] using h)
        exact ⟨snd_not i1.pe, fun q => snt_not (i1.pt (by simpa only [tstB] using q)), fun _ _ _ q => by cases q⟩
      | _ => simp [mtE] at h
    | _ => simp [mtE] at h
  | .ite t a b, e, X, S, W, at_, tk, h => by
    cases e with
    | IfExp et ea eb p =>
      simp only [mtE, Bool.and_eq_true] at h
      obtain ⟨⟨⟨h1, h2⟩, h3⟩, h4⟩ := h
      exact ⟨snd_ite ((sndE g t et X S W at_ tk h1).pt h2) (sndE g a ea X S W at_ tk h3).pe (sndE g b eb X S W at_ tk h4).pe, fun q => by simp [tstB] at q, fun _ _ _ q => by cases q⟩
    | _ => simp [mtE] at h
  | .tup es, e, X, S, W, at_, tk, h => by
    cases e with
    | Tuple as k p =>
      simp only [mtE, Bool.and_eq_true, decide_eq_true_eq] at h
      exact .plain (snd_tup (sndX g es as X S W at_ tk h.1.1.1) h.1.1.2 h.2) rfl
    | _ => simp [mtE] at h
  | .lst es, e, X, S, W, at_, tk, h => by
    cases e with
    | List as p =>
      simp only [mtE, Bool.and_eq_true, decide_eq_true_eq] at h
      exact .plain (snd_lst (sndX g es as X S W at_ tk h.1.1.1) h.1.1.2 h.2) rfl
    | _ => simp [mtE] at h
  | .sub a i, e, X, S, W, at_, tk, h => by
    cases e with
    | Subscript ea ei p =>
      simp only [mtE, Bool.and_eq_true] at h
      exact .plain (snd_sub (sndE g a ea X S W at_ tk h.1).pe (sndE g i ei X S W at_ tk h.2).pe (plainIx (mtE_slice h.2))) rfl
    | _ => simp [mtE] at h
  | .cut a lo hi, e, X, S, W, at_, tk, h => by
    cases e with
    | Subscript ea ei p =>
      cases ei with
      | Slice l u st p2 =>
        cases st with
        | none =>
          simp only [mtE, Bool.and_eq_true] at h
          exact .plain (snd_cut (sndE g a ea X S W at_ tk h.1.1).pe (sndO g lo l X S W at_ tk h.1.2) (sndO g hi u X S W at_ tk h.2)) rfl
        | some _ => simp [mtE] at h
      | _ => simp [mtE] at h
    | _ => simp [mtE] at h
  | .bi b es, e, X, S, W, at_, tk, h => by
    cases e with
    | Call f as kw p =>
      cases f with
      | Name x p2 =>
        cases kw with
        | nil =>
          simp only [mtE, Bool.and_eq_true, decide_eq_true_eq] at h
          obtain ⟨⟨⟨⟨rfl, h2⟩, h3⟩, h4⟩, h5⟩ := h
          obtain ⟨s1, s2⟩ := mtX_star h3
          cases as with
          | nil => rw [List.length_nil] at s2; omega
          | cons e0 eas => exact .plain (snd_bi g at_ b h2 (sndX g es _ X S W at_ tk h3) s1) rfl
        | cons _ _ => simp [mtE] at h
      | _ => simp [mtE] at h
    | _ => simp [mtE] at h
  | .isi a T, e, X, S, W, at_, tk, h => by
    cases e with
    | Call f as kw p =>
      cases f with
      | Name x p2 =>
        cases as with
        | nil => simp [mtE] at h
        | cons ea r =>
          cases r with
          | nil => simp [mtE] at h
          | cons yb r2 =>
            cases yb with
            | Name y p3 =>
              cases r2 with
              | cons _ _ => simp [mtE] at h
              | nil =>
                cases kw with
                | cons _ _ => simp [mtE] at h
                | nil =>
                  simp only [mtE, Bool.and_eq_true, decide_eq_true_eq, Bool.or_eq_true, beq_iff_eq] at h
                  obtain ⟨⟨⟨⟨rfl, h2⟩, h3⟩, h4⟩, h5⟩ := h
                  obtain ⟨hg, _⟩ := at_.gl h2
                  obtain ⟨hgy, hdy⟩ := at_.gl h4
                  have i1 := sndE g a ea X S W at_ tk h3
                  have hm : X.mg "isinstance" = none := by rw [at_.ok.mg]; exact g.isi
                  have hm2 : ∀ b : Bi, b ≠ .gcd → X.mg b.nm = none := mg_bi g at_
                  rcases h5 with (((⟨rfl, rfl⟩ | ⟨rfl, rfl⟩) | ⟨rfl, rfl⟩) | ⟨rfl, rfl⟩) | ⟨rfl, rfl⟩
                  · exact .plain (snd_isi (by simp) i1.pe (mtE_star h3) hg hm hgy (hm2 .int (by decide)) PyProof.Rows.boot_int (by decide) hdy) rfl
                  · exact .plain (snd_isi (by simp) i1.pe (mtE_star h3) hg hm hgy (by rw [at_.ok.mg]; exact g.bool) PyProof.Rows.boot_bool (by decide) hdy) rfl
                  · exact .plain (snd_isi (by simp) i1.pe (mtE_star h3) hg hm hgy (hm2 .str (by decide)) PyProof.Rows.boot_str (by decide) hdy) rfl
                  · exact .plain (snd_isi (by simp) i1.pe (mtE_star h3) hg hm hgy (hm2 .tuple (by decide)) PyProof.Rows.boot_tuple (by decide) hdy) rfl
                  · exact .plain (snd_isi (by simp) i1.pe (mtE_star h3) hg hm hgy (hm2 .list (by decide)) PyProof.Rows.boot_list (by decide) hdy) rfl
            | _ => simp [mtE] at h
      | _ => simp [mtE] at h
    | _ => simp [mtE] at h
  | .call f es, e, X, S, W, at_, tk, h => by
    cases e with
    | Call fx as kw p =>
      cases fx with
      | Name x p2 =>
        cases kw with
        | nil =>
          simp only [mtE, Bool.and_eq_true, decide_eq_true_eq] at h
          obtain ⟨⟨⟨⟨⟨rfl, h1⟩, h2⟩, h3⟩, h4⟩, h5⟩ := h
          obtain ⟨s1, s2⟩ := mtX_star h3
          obtain ⟨hg, hdb⟩ := at_.gl h2
          cases as with
          | nil => rw [List.length_nil] at s2; omega
          | cons e0 eas =>
            have ia := sndX g es _ X S W at_ tk h3
            obtain ⟨fa, fd, ps, q1, q2, q3, q4⟩ := (g.fn x (inFs_of h1)).ex
            obtain ⟨ok, _, _, _⟩ := at_
            obtain ⟨o1, o2, o3, o4, o5, o6, o7, o8⟩ := ok
            rw [← o4] at q1
            rw [← o3] at q2 q3 q4
            rw [← o1, ← o2, ← o4, ← o5] at q4
            exact .plain (snd_call tk q4 o7 hg q1 q2 q3 ia h4 s1 hdb) rfl
        | cons _ _ => simp [mtE] at h
      | _ => simp [mtE] at h
    | _ => simp [mtE] at h
  | .comp own elt tg it ifs, e, X, S, W, at_, tk, h => by
    cases e with
    | ListComp x gs scope p =>
      cases gs with
      | nil => simp [mtE] at h
      | cons g0 gr =>
        cases gr with
        | cons _ _ => obtain ⟨t, i, cs, n⟩ := g0; simp [mtE] at h
        | nil =>
          obtain ⟨t, i, cs, n⟩ := g0
          simp only [mtE, Bool.and_eq_true, decide_eq_true_eq] at h
          obtain ⟨⟨⟨⟨⟨⟨⟨rfl, h1⟩, h2⟩, h3⟩, h4⟩, h5⟩, h6⟩, h7⟩ := h
          have h1' : blkC X.N X.env.scope scope own = true := by rw [at_.N, at_.sc]; exact h1
          exact .plain (snd_comp at_.ok.calm at_.ok.nd (sndI g it i t X S W at_ tk tg (blkS S scope) h3 h4) (blkOk_by h1') (own_of h2) h6
            (fun s H C cl fp => (at_.blk s H scope C cl fp).tgt h3)
            (fun s H C cl fp => sndC g ifs cs _ _ _ (at_.blk s H scope C cl fp) takes0 h7)
            (fun s H C cl fp => (sndE g elt x _ _ _ (at_.blk s H scope C cl fp) takes0 h5).pe)
            (foldS (mtI_set h4))).1 rfl
    | _ => simp [mtE] at h
  | .comp2 own elt tg it ifs tg1 it1 ifs1, e, X, S, W, at_, tk, h => by
    cases e with
    | ListComp x gs scope p =>
      match gs, h with
      | [], h => simp [mtE] at h
      | [⟨t, i, cs, n⟩], h => simp [mtE] at h
      | _ :: _ :: _ :: _, h => simp [mtE] at h
      | [⟨t, i, cs, n⟩, ⟨t1, i1, cs1, n1⟩], h =>
        simp only [mtE, Bool.and_eq_true, decide_eq_true_eq] at h
        obtain ⟨⟨⟨⟨⟨⟨⟨⟨⟨⟨⟨⟨⟨rfl, rfl⟩, h1⟩, h2⟩, h3⟩, h4⟩, h5⟩, h6⟩, h7⟩, h8⟩, h9⟩, h10⟩, h11⟩, h12⟩ := h
        have h1' : blkC X.N X.env.scope scope own = true := by rw [at_.N, at_.sc]; exact h1
        exact .plain (snd_comp2 at_.ok.calm at_.ok.nd (sndI g it i t X S W at_ tk tg (blkS S scope) h4 h5) (blkOk_by h1') (own_of h2) (own_of h3) h12 h9
          (fun s H C cl fp => (at_.blk s H scope C cl fp).tgt h4)
          (fun s H C cl fp => sndC g ifs cs _ _ _ (at_.blk s H scope C cl fp) takes0 h6)
          (fun s H C cl fp => sndI g it1 i1 t1 _ (blkS S scope) _ (at_.blk s H scope C cl fp) takes0 tg1 (blkS S scope) h7 h8)
          (fun s H C cl fp => (at_.blk s H scope C cl fp).tgt h7)
          (fun s H C cl fp => sndC g ifs1 cs1 _ _ _ (at_.blk s H scope C cl fp) takes0 h10)
          (fun s H C cl fp => (sndE g elt x _ _ _ (at_.blk s H scope C cl fp) takes0 h11).pe)
          (foldS (mtI_set h5)) (fun env => foldS (mtI_set h8))).1 rfl
    | _ => simp [mtE] at h
  | .setlen a, e, X, S, W, at_, tk, h => by
    cases e with
    | Call f as kw p =>
      match f, as, kw, h with
      | .Name x p2, [.Call (.Name y p3) [ea] [] p4], [], h =>
        simp only [mtE, Bool.and_eq_true, decide_eq_true_eq] at h
        obtain ⟨⟨⟨⟨rfl, rfl⟩, h3⟩, h4⟩, h5⟩ := h
        exact .plain (snd_setlen (at_.gl h3).1 (mg_bi g at_ .len (by decide)) (at_.gl h4).1 (by rw [at_.ok.mg]; exact g.set) (sndE g a ea X S W at_ tk h5).pe at_.ok.calm (mtE_star h5)) rfl
    | _ => simp [mtE] at h
  | .dead, e, X, S, W, at_, tk, h => by
    refine ⟨⟨fun pins s σ H Q I q => ?_⟩, fun _ => ⟨fun pins s σ H Q I q => ?_⟩, fun op vs pos _ _ => ⟨fun _ pins s σ H Q I q => ?_⟩⟩
    all_goals
      obtain ⟨F, O, ρ, P, E, en, w, hP, hE⟩ := q
      unfold wpE at w
      exact w.elim
theorem sndX {G : Glb} (g : GOk G) : ∀ (es : Exs) (as : List Expr) (X : Cx) (S : Sx) (W : WX), At G S X → Takes X W → mtX G.Γ S es as = true → SA X G.Γ G.ec W es as
  | .nil, [], X, S, W, at_, tk, h => sna_nil
  | .nil, _ :: _, X, S, W, at_, tk, h => by simp [mtX] at h
  | .cons a es, [], X, S, W, at_, tk, h => by simp [mtX] at h
  | .cons a es, e :: as, X, S, W, at_, tk, h => by
    simp only [mtX, Bool.and_eq_true] at h
    exact sna_cons (sndE g a e X S W at_ tk h.1).pe (sndX g es as X S W at_ tk h.2) (star_cons (mtE_star h.1))
  | .dr i es, [], X, S, W, at_, tk, h => by simp [mtX] at h
  | .dr i es, e :: as, X, S, W, at_, tk, h => by
    cases e with
    | Name x p =>
      simp only [mtX, Bool.and_eq_true, decide_eq_true_eq] at h
      obtain ⟨h1, h2⟩ := nm_of h.1.2
      exact sna_dr (by rw [at_.N]; exact h.1.1.1) (at_.vis h.1.1.2) h1 h2 (sndX g es as X S W at_ tk h.2)
    | _ => simp [mtX] at h
theorem sndO {G : Glb} (g : GOk G) : ∀ (a : Eo) (e : Option Expr) (X : Cx) (S : Sx) (W : WX), At G S X → Takes X W → mtO G.Γ S a e = true → PO X e (tO X.K G.Γ G.ec W a)
  | .no, none, X, S, W, at_, tk, h => sno_no
  | .no, some _, X, S, W, at_, tk, h => by simp [mtO] at h
  | .so a, none, X, S, W, at_, tk, h => by simp [mtO] at h
  | .so a, some e, X, S, W, at_, tk, h => sno_so (sndE g a e X S W at_ tk (by simpa only [mtO] using h)).pe
theorem sndC {G : Glb} (g : GOk G) : ∀ (a : Eo) (es : List Expr) (X : Cx) (S : Sx) (W : WX), At G S X → Takes X W → mtC G.Γ S a es = true → PTs X es (tC X.K G.Γ G.ec W a)
  | .no, [], X, S, W, at_, tk, h => snc_no
  | .no, _ :: _, X, S, W, at_, tk, h => by simp [mtC] at h
  | .so a, [], X, S, W, at_, tk, h => by simp [mtC] at h
  | .so a, [e], X, S, W, at_, tk, h => by
    simp only [mtC, Bool.and_eq_true] at h
    exact snc_so ((sndE g a e X S W at_ tk h.1).pt h.2)
  | .so a, _ :: _ :: _, X, S, W, at_, tk, h => by simp [mtC] at h
theorem sndI {G : Glb} (g : GOk G) : ∀ (it : Ir) (i t : Expr) (X : Cx) (S : Sx) (W : WX), At G S X → Takes X W → ∀ (tg : Tg) (S' : Sx), mtT S' tg t = true → mtI G.Γ S (isTup tg) it i = true → PI X t i (tI X.K G.Γ G.ec W it)
  | .seq a, i, t, X, S, W, at_, tk, tg, S', ht, h => sni_seq (sndE g a i X S W at_ tk (by simpa only [mtI] using h)).pe
  | .rng es, i, t, X, S, W, at_, tk, tg, S', ht, h => by
    cases i with
    | Call f as kw p =>
      cases f with
      | Name x p2 =>
        cases kw with
        | cons _ _ => simp [mtI] at h
        | nil =>
          simp only [mtI, Bool.and_eq_true, decide_eq_true_eq, Bool.or_eq_true, beq_iff_eq] at h
          obtain ⟨⟨⟨⟨rfl, h2⟩, h3⟩, h4⟩, h5⟩ := h
          obtain ⟨hg, _⟩ := at_.gl h2
          obtain ⟨s1, s2⟩ := mtX_star h3
          have ia := sndX g es as X S W at_ tk h3
          have hm : X.mg "range" = none := by rw [at_.ok.mg]; exact g.rng
          match as, s1, s2, ia with
          | [], s1, s2, ia => rw [List.length_nil] at s2; omega
          | [a], s1, s2, ia => exact sni_rng1 hg hm ia (by simpa using s1) s2.symm
          | [a, b], s1, s2, ia => exact sni_rng2 hg hm ia (by simp at s1; exact s1.1) (by simp at s1; exact s1.2) s2.symm
          | _ :: _ :: _ :: _, s1, s2, ia => simp at s2; omega
      | _ => simp [mtI] at h
    | _ => simp [mtI] at h
  | .enum a, i, t, X, S, W, at_, tk, tg, S', ht, h => by
    cases i with
    | Call f as kw p =>
      cases f with
      | Name x p2 =>
        match as, kw, h with
        | [], _, h => simp [mtI] at h
        | _ :: _ :: _, _, h => simp [mtI] at h
        | [_], _ :: _, h => simp [mtI] at h
        | [ea], [], h =>
          simp only [mtI, Bool.and_eq_true, decide_eq_true_eq] at h
          obtain ⟨⟨⟨rfl, h2⟩, h3⟩, h4⟩ := h
          obtain ⟨hg, _⟩ := at_.gl h2
          obtain ⟨elts, kk, tp, rfl⟩ := mtT_tup ht h4
          exact sni_enum hg (by rw [at_.ok.mg]; exact g.enm) (sndE g a ea X S W at_ tk h3).pe (mtE_star h3)
      | _ => simp [mtI] at h
    | _ => simp [mtI] at h
  | .zip a b, i, t, X, S, W, at_, tk, tg, S', ht, h => by
    cases i with
    | Call f as kw p =>
      cases f with
      | Name x p2 =>
        match as, kw, h with
        | [], _, h => simp [mtI] at h
        | [_], _, h => simp [mtI] at h
        | _ :: _ :: _ :: _, _, h => simp [mtI] at h
        | [_, _], _ :: _, h => simp [mtI] at h
        | [ea, eb], [], h =>
          simp only [mtI, Bool.and_eq_true, decide_eq_true_eq] at h
          obtain ⟨⟨⟨⟨rfl, h2⟩, h3⟩, h4⟩, h5⟩ := h
          obtain ⟨hg, _⟩ := at_.gl h2
          obtain ⟨elts, kk, tp, rfl⟩ := mtT_tup ht h5
          exact sni_zip hg (by rw [at_.ok.mg]; exact g.zip) (sndE g a ea X S W at_ tk h3).pe (sndE g b eb X S W at_ tk h4).pe (mtE_star h3) (mtE_star h4)
      | _ => simp [mtI] at h
    | _ => simp [mtI] at h
end
end DL

set_option Elab.async false
set_option linter.all false
set_option maxRecDepth 100000
set_option maxHeartbeats 4000000
namespace DL
open PySem PySem.Spec PyProof.Rows L2

/-! ### statements -/
mutual
inductive St where
  | set (i : Nat) (e : Ex)
  | own (i : Nat) (e : Ex)
  | unp (ts : Tgs) (e : Ex)
  | frz (i : Nat)
  | aug (i : Nat) (op : Operator) (e : Ex)
  | put (i : Nat) (ix e : Ex)
  | augp (i : Nat) (ix : Ex) (op : Operator) (e : Ex)
  | app (i : Nat) (e : Ex)
  | ext (i : Nat) (e : Ex)
  | expr (e : Ex)
  | ret (e : Ex)
  | ife (t : Ex) (a b : Sts)
  | loop (tg : Tg) (it : Ir) (body : Sts)
  | whl (t : Ex) (body : Sts)
  | rais (x : Str)
  | try1 (body : Sts) (x : Str) (c : Ex)
  | brk | cnt | pss
  | retn
  | dead
inductive Sts where
  | nil
  | cons (s : St) (ss : Sts)
end
/-- what is wanted behind a statement -/
structure Kt where
  nx : Rho → Prop
  rt : D → Prop
  bk : Rho → Prop
  ct : Rho → Prop
  er : Str → Rho → Prop
def forW (body : D → Rho → (Rho → Prop) → Prop) : List D → Rho → (Rho → Prop) → Prop
  | [], ρ, Q => Q ρ
  | d :: ds, ρ, Q => body d ρ fun ρ' => forW body ds ρ' Q
def augF : Operator → D → D → (D → Prop) → Prop
  | .Add, .int i, .int j, P => P (.int (i + j))
  | .Sub, .int i, .int j, P => P (.int (i - j))
  | .Mult, .int i, .int j, P => dMulOk i j ∧ P (.int (i * j))
  | _, _, _, _ => False
def constD : Ex → Option D
  | .int i => some (.int i)
  | .bl b => some (.bool b)
  | .non => some .none
  | .str s => some (.str s)
  | _ => none
/-- a list that the frame owns -/
def owL (ρ : Rho) (i : Nat) (P : List D → Prop) : Prop := match ρ[i]? with
  | some (some (.ow (.list ds))) => P ds
  | _ => False
def intQ (d : D) (P : Int → Prop) : Prop := match d with
  | .int z => P z
  | _ => False
def lstQ (d : D) (P : List D → Prop) : Prop := match d with
  | .list ds => P ds
  | _ => False
mutual
def wpS (Γ : Gam) : St → Rho → Kt → Prop
  | .set i e, ρ, k => wpE Γ e ρ (fun d => k.nx (ρ.set i (some (.fz d)))) fun x => k.er x ρ
  | .own i e, ρ, k => wpE Γ e ρ (fun d => lstQ d fun ds => k.nx (ρ.set i (some (.ow (.list ds))))) fun x => k.er x ρ
  | .unp ts e, ρ, k => wpE Γ e ρ (fun d => bindT (.t ts) d ρ k.nx) fun x => k.er x ρ
  | .frz i, ρ, k => match ρ[i]? with
    | some (some (.ow d)) => k.nx (ρ.set i (some (.fz d)))
    | _ => False
  | .aug i op e, ρ, k => match ρ[i]? with
    | some (some (.fz x)) => wpE Γ e ρ (fun y => augF op x y fun r => k.nx (ρ.set i (some (.fz r)))) fun x => k.er x ρ
    | _ => False
  | .put i ix e, ρ, k => wpE Γ e ρ (fun y => owL ρ i fun ds => wpE Γ ix ρ (fun z => intQ z fun z => optQ (ixN ds.length z) fun j => k.nx (ρ.set i (some (.ow (.list (ds.set j y)))))) fun x => k.er x ρ) fun x => k.er x ρ
  | .augp i ix op e, ρ, k => owL ρ i fun ds => wpE Γ ix ρ (fun z => intQ z fun z => optQ (atI ds z) fun x => wpE Γ e ρ (fun y => augF op x y fun r => optQ (ixN ds.length z) fun j => k.nx (ρ.set i (some (.ow (.list (ds.set j r)))))) fun x => k.er x ρ) fun x => k.er x ρ
  | .app i e, ρ, k => owL ρ i fun ds => wpE Γ e ρ (fun y => ds.length < sizeLine ∧ k.nx (ρ.set i (some (.ow (.list (ds ++ [y])))))) fun x => k.er x ρ
  | .ext i e, ρ, k => owL ρ i fun ds => wpE Γ e ρ (fun y => lstQ y fun es => ds.length + es.length ≤ sizeLine ∧ k.nx (ρ.set i (some (.ow (.list (ds ++ es)))))) fun x => k.er x ρ
  | .expr e, ρ, k => wpE Γ e ρ (fun _ => k.nx ρ) fun x => k.er x ρ
  | .ret e, ρ, k => wpE Γ e ρ k.rt fun x => k.er x ρ
  | .ife t a b, ρ, k => wpE Γ t ρ (fun d => optQ (truD d) fun c => if c = true then wpSs Γ a ρ k else wpSs Γ b ρ k) fun x => k.er x ρ
  | .loop tg it body, ρ, k => wpI Γ it ρ (fun ds => forW (fun d ρ1 kk => bindT tg d ρ1 fun ρ2 => wpSs Γ body ρ2 { k with nx := kk, ct := kk, bk := k.nx }) ds ρ k.nx) fun x => k.er x ρ
  | .whl t body, ρ, k => ∃ I : Nat → Rho → Prop, (∃ m, I m ρ) ∧ ∀ m ρ', I m ρ' →
      wpE Γ t ρ' (fun d => optQ (truD d) fun c => if c = true then wpSs Γ body ρ' { k with nx := fun ρ2 => ∃ m', m' < m ∧ I m' ρ2, ct := fun ρ2 => ∃ m', m' < m ∧ I m' ρ2, bk := k.nx } else k.nx ρ') fun x => k.er x ρ'
  | .rais x, ρ, k => k.er x ρ
  | .try1 body x c, ρ, k => wpSs Γ body ρ { k with er := fun y ρ' => y ∈ Γ.exs ∧ if y = x then optQ (constD c) k.rt else k.er y ρ' }
  | .brk, ρ, k => k.bk ρ
  | .cnt, ρ, k => k.ct ρ
  | .pss, ρ, k => k.nx ρ
  | .retn, ρ, k => k.rt .none
  | .dead, ρ, k => False
def wpSs (Γ : Gam) : Sts → Rho → Kt → Prop
  | .nil, ρ, k => k.nx ρ
  | .cons s ss, ρ, k => wpS Γ s ρ { k with nx := fun ρ' => wpSs Γ ss ρ' k }
end

/-! ### what the grammar must be -/
def slotB (S : Sx) (i : Nat) : Expr → Bool
  | .Name x _ => decide (S.N[i]? = some x) && locB S x && nmB x
  | _ => false
/-- how name = e is stored -/
def asgB (S : Sx) (x : Str) (py : Pos) (v : Expr) : Bool := match v with
  | .ListComp _ _ scope p2 => (match S.sc.names.lookup x with
    | some .local => py.line == p2.line && !(scope.names.any fun (n, k) => n == x && (k == .local || k == .cell))
    | some .cell => true
    | _ => false)
  | e => !isCmp e
def nmsOf : List Expr → Option (List (Str × Pos))
  | [] => some []
  | .Name x p :: r => (nmsOf r).map ((x, p) :: ·)
  | _ => none
def tgsNames : Tgs → Option (List Nat)
  | .nil => some []
  | .cons (.n i) r => (tgsNames r).map (i :: ·)
  | _ => none
/-- the names that are stored without a tuple -/
def swLine (ts : List Expr) : Nat := (ts.head?.map (·.pos.line)).getD 0
def swNames (sc : Scope) (ts : List Expr) : List Str := ts.filterMap fun
  | .Name id pos => if sc.names.lookup id == some .local && pos.line == swLine ts then some id else none
  | _ => none
def isStar : Expr → Bool
  | .Starred .. => true
  | _ => false
/-- a, b = x, y: both plain local names on one line, so that no tuple is made -/
def swap2 (S : Sx) : Tgs → List Expr → Ex → Expr → Bool
  | .cons (.n i) (.cons (.n j) .nil), [.Name x px, .Name y py], .tup (.cons _ (.cons _ .nil)), .Tuple [a, b] _ _ =>
    decide (S.sc.names.lookup x = some .local) && decide (S.sc.names.lookup y = some .local) && decide (swNames S.sc [.Name x px, .Name y py] = [x, y]) && decide ([x, y].eraseDups.length = 2) && decide (i ≠ j) && !starred a && !starred b && !([a, b].all (foldedForSure 8)) && !([a, b].all (constantsAlone 8))
  | _, _, _, _ => false
/-- the display on the right is stored as any tuple -/
def noswap (S : Sx) (es : List Expr) : Expr → Bool
  | .Tuple vs _ _ => !(es.length == 2 || es.length == 3) || vs.length != es.length || vs.any isStar || ((swNames S.sc es).length != es.length || (swNames S.sc es).eraseDups.length != (swNames S.sc es).length) || vs.all (foldedForSure 8)
  | e => true
/-- raise X('..') -/
def raisOf : Option Expr → Option Expr → Option Str
  | some (.Call (.Name x _) [.Constant (.str _) _ _] [] _), none => some x
  | _, _ => none
/-- except X: return c -/
def tryOf : List ExceptHandler → List Stmt → List Stmt → Option (Str × Expr)
  | [.ExceptHandler (some (.Name y _)) none [.Return (some r) _] _], [], [] => some (y, r)
  | _, _, _ => none
def isFrz : St → Bool
  | .frz _ => true
  | _ => false
mutual
def mtS (Γ : Gam) (S : Sx) : St → Stmt → Bool
  | .set i e, .Assign [.Name x py] v pos => slotB S i (.Name x py) && mtE Γ S e v && nb e && asgB S x py v
  | .own i e, .Assign [.Name x py] v pos => slotB S i (.Name x py) && mtE Γ S e v && frs e && nb e && asgB S x py v
  | .unp ts e, .Assign [.Tuple es _ _] v pos => mtTs S ts es && mtE Γ S e v && nb e && !isCmp v && (swap2 S ts es e v || noswap S es v)
  | .aug i op e, .AugAssign (.Name x py) op' v _ => slotB S i (.Name x py) && decide (op = op') && mtE Γ S e v && nb e
  | .put i ix e, .Assign [.Subscript o eix _] v pos => slotB S i o && mtE Γ S ix eix && mtE Γ S e v && nb e && !isCmp v
  | .augp i ix op e, .AugAssign (.Subscript o eix _) op' v _ => slotB S i o && mtE Γ S ix eix && decide (op = op') && mtE Γ S e v && nb e && nb ix
  | .app i e, .Expr (.Call (.Attribute o m ap) [v] [] cp) pos => decide (m = ("append" : Str)) && slotB S i o && mtE Γ S e v && nb e && ap.endLine == cp.line
  | .ext i e, .Expr (.Call (.Attribute o m ap) [v] [] cp) pos => decide (m = ("extend" : Str)) && slotB S i o && mtE Γ S e v && nb e && ap.endLine == cp.line
  | .expr e, .Expr v _ => mtE Γ S e v && !isCmp v
  | .ret e, .Return (some v) _ => mtE Γ S e v
  | .ife t a b, .If c x y _ => mtE Γ S t c && tstB c && mtSs Γ S a x && mtSs Γ S b y
  | .loop tg it body, .For t i x [] _ => mtT S tg t && mtI Γ S (isTup tg) it i && nbI it && mtSs Γ S body x
  | .whl t body, .While c x [] _ => mtE Γ S t c && tstB c && mtSs Γ S body x
  | .rais n, .Raise ex cause _ => (match raisOf ex cause with
    | some x => decide (x = n) && glB S.sc x && Γ.exs.any fun g => decide (g = x)
    | none => false)
  | .try1 body n c, .Try x hs oe fb _ => (match tryOf hs oe fb with
    | some (y, r) => decide (y = n) && glB S.sc y && (Γ.exs.any fun g => decide (g = y)) && mtSs Γ S body x && mtE Γ S c r && (constD c).isSome
    | none => false)
  | .brk, .Break _ => true
  | .cnt, .Continue _ => true
  | .pss, .Pass _ => true
  | .retn, .Return none _ => true
  | .dead, _ => true
  | _, _ => false
def mtSs (Γ : Gam) (S : Sx) : Sts → List Stmt → Bool
  | .nil, sts => sts.isEmpty
  | .cons s ss, sts => if isFrz s = true then mtSs Γ S ss sts else match sts with
    | st :: r => mtS Γ S s st && mtSs Γ S ss r
    | [] => false
end
end DL

set_option Elab.async false
set_option linter.all false
set_option maxRecDepth 100000
set_option maxHeartbeats 8000000
namespace DL
open PySem PySem.Spec PyProof.Rows L2

structure AtS (G : Glb) (S : Sx) (X : Cx) : Prop where
  at_ : At G S X
  stk : X.stack = X.env :: X.outer
  frm : X.env.frame = some X.env.locals
  kind : S.sc.kind = .function
  psn : PassesOwn (model X.prog X.w) X.A X.env X.xe
structure Kon (K : PySem.W.Frag) (ec : Str → Value) (W : WX) (F : Fm) (k : Kt) (D : Ends) : Prop where
  nx : ∀ ρ', k.nx ρ' → ∀ O' σ' H', EnvR K F O' H' σ' ρ' → D.nx σ' H'
  rt : ∀ d, k.rt d → ∀ O' σ' H' ρ' v, EnvR K F O' H' σ' ρ' → Dr K F.O0 H' v d → D.rt v H'
  bk : ∀ ρ', k.bk ρ' → ∀ O' σ' H', EnvR K F O' H' σ' ρ' → D.bk σ' H'
  ct : ∀ ρ', k.ct ρ' → ∀ O' σ' H', EnvR K F O' H' σ' ρ' → D.ct σ' H'
  er : ∀ x ρ', k.er x ρ' → ∀ O' σ' H', EnvR K F O' H' σ' ρ' → W (ec x) none σ' H'
section
variable (K : PySem.W.Frag) (Γ : Gam) (ec : Str → Value) (W : WX)
def tS (s : DL.St) : TS := fun D σ H => ∃ F O ρ k, EnvR K F O H σ ρ ∧ wpS Γ s ρ k ∧ Kon K ec W F k D
def tSs (s : Sts) : TS := fun D σ H => ∃ F O ρ k, EnvR K F O H σ ρ ∧ wpSs Γ s ρ k ∧ Kon K ec W F k D
end
section
variable {X : Cx} {G : Glb} {S : Sx} {Γ : Gam} {ec : Str → Value} {W : WX} {e : Ex} {v : Expr} {pos py : Pos} {i : Nat} {x : Str}
theorem PS.conseq {s : Stmt} {t t' : TS} (h : PS X s t) (c : ∀ D σ H, t' D σ H → t D σ H) : PS X s t' := ⟨fun pins s σ H D I w => h.run pins s σ H D I (c D σ H w)⟩
theorem PSs.conseq {s : List Stmt} {t t' : TS} (h : PSs X s t) (c : ∀ D σ H, t' D σ H → t D σ H) : PSs X s t' := ⟨fun pins s σ H D I w => h.run pins s σ H D I (c D σ H w)⟩
theorem Kon.er1 {K : PySem.W.Frag} {F : Fm} {O : Addr → Prop} {H : Hp} {σ : L2.St} {ρ : Rho} {k : Kt} {D : Ends} (h : Kon K ec W F k D) (en : EnvR K F O H σ ρ) : Er1 K ec W F O H σ (fun x => k.er x ρ) := fun x hx H' s' => h.er x ρ hx O σ H' (en.stp s')
theorem BDr.low {K : PySem.W.Frag} {F : Fm} {O : Addr → Prop} {H : Hp} {σ : L2.St} {ρ : Rho} {w : V} {d : D} (en : EnvR K F O H σ ρ) (h : BDr K F.O0 O H w d) : Dr K F.O0 H w d := by
  rcases h with h | ⟨a, xs, ds, rfl, rfl, n, h1, h2⟩
  · exact Dr.stay (fun _ _ _ n q => n (en.sub _ q)) (fun _ _ _ q => q) d w h
  · exact .lst h1 n (DrA.stay (fun _ _ _ n q => n (en.sub _ q)) (fun _ _ _ q => q) ds xs h2)

/-! names stored -/
theorem sns_set (nd : X.N.Nodup) (hN : X.N[i]? = some x) (hx : Loc X.env.scope x) (hf : X.fn x = true ∨ X.env.scope.names.lookup x = some .local) (he : SE X Γ ec W e v) (hn : nb e = true) (hs : swapsWith v (some (.Name x py)) pos.line X.env = pure false) :
    PS X (.Assign [.Name x py] v pos) (tS X.K Γ ec W (.set i e)) := by
  refine PS.conseq (ps_set nd hN hx he hs hf) fun D σ H h => ?_
  obtain ⟨F, O, ρ, k, en, w, kn⟩ := h
  unfold wpS at w
  refine ⟨F, O, ρ, _, _, en, w, fun d hd u H1 s1 r1 => ?_, kn.er1 en⟩
  exact kn.nx _ hd O _ H1 ((en.stp s1).set (r1.n hn))
theorem sns_own (nd : X.N.Nodup) (hN : X.N[i]? = some x) (hx : Loc X.env.scope x) (hf : X.fn x = true ∨ X.env.scope.names.lookup x = some .local) (he : SE X Γ ec W e v) (hn : frs e = true) (hs : swapsWith v (some (.Name x py)) pos.line X.env = pure false) :
    PS X (.Assign [.Name x py] v pos) (tS X.K Γ ec W (.own i e)) := by
  refine PS.conseq (ps_set nd hN hx he hs hf) fun D σ H h => ?_
  obtain ⟨F, O, ρ, k, en, w, kn⟩ := h
  unfold wpS at w
  refine ⟨F, O, ρ, _, _, en, w, fun d hd u H1 s1 r1 => ?_, kn.er1 en⟩
  cases d with
  | list ds =>
    obtain ⟨p, xs, rfl, hp, hp', hA⟩ := r1.f hn ds rfl
    exact kn.nx _ hd _ _ H1 (en.own s1 hp hp' hA)
  | _ => exact hd.elim
/-- a comprehension given to a plain local -/
theorem sns_setLc {own : List (Str × Nat)} {elt : Ex} {tg : Tg} {it : Ir} {ifs : Eo} {eelt etg eiter : Expr} {eifs : List Expr} {scope : Scope} {p2 : Pos} (o : Bool) (hc : X.calm = true) (nd : X.N.Nodup) (hN : X.N[i]? = some x) (hyl : X.env.scope.names.lookup x = some .local)
    (hsw : swapsWith (.ListComp eelt [⟨etg, eiter, eifs, 0⟩] scope p2) (some (.Name x py)) pos.line X.env = pure true) (hi : PI X etg eiter (tI X.K Γ ec W it)) (ok : BlkOk X.N X.env.scope scope own)
    (hsub : ∀ j ∈ slotsT tg, j ∈ own.map (·.2)) (hne : nb elt = true)
    (hg : ∀ (s : Shared) (H : Hp) (C : Addr) (cl : List (Str × Addr)) (fp : List Addr), PG (X.blk s H scope (compEnvC scope cl C X.env) fp) etg (tG X.K tg)) (ht : ∀ (s : Shared) (H : Hp) (C : Addr) (cl : List (Str × Addr)) (fp : List Addr), PTs (X.blk s H scope (compEnvC scope cl C X.env) fp) eifs (tC X.K Γ ec W0 ifs))
    (he : ∀ (s : Shared) (H : Hp) (C : Addr) (cl : List (Str × Addr)) (fp : List Addr), PE (X.blk s H scope (compEnvC scope cl C X.env) fp) eelt (tE X.K Γ ec W0 elt)) (hs : ∀ x, foldedSetIterable eiter X.env x = pure x) :
    PS X (.Assign [.Name x py] (.ListComp eelt [⟨etg, eiter, eifs, 0⟩] scope p2) pos) (tS X.K Γ ec W (if o = true then .own i (.comp own elt tg it ifs) else .set i (.comp own elt tg it ifs))) := by
  have main := (snd_comp (W := W) (pos := p2) hc nd hi ok hsub hne hg ht he hs).2
  refine PS.conseq (ps_setLc hc nd hN hyl hsw hi ok hg ht he hs) fun D σ H h => ?_
  obtain ⟨F, O, ρ, k, en, w, kn⟩ := h
  refine main σ H _ ?_
  cases o with
  | true =>
    rw [if_pos rfl] at w
    unfold wpS at w
    refine ⟨F, O, ρ, _, _, en, w, fun d hd u H1 s1 r1 => ?_, kn.er1 en⟩
    cases d with
    | list ds =>
      obtain ⟨p, xs, rfl, hp, hp', hA⟩ := r1.f rfl ds rfl
      exact kn.nx _ hd _ _ H1 (en.own s1 hp hp' hA)
    | _ => exact hd.elim
  | false =>
    rw [if_neg Bool.false_ne_true] at w
    unfold wpS at w
    refine ⟨F, O, ρ, _, _, en, w, fun d hd u H1 s1 r1 => ?_, kn.er1 en⟩
    exact kn.nx _ hd O _ H1 ((en.stp s1).set (r1.n rfl))
theorem sns_setLc2 {own : List (Str × Nat)} {elt : Ex} {tg tg1 : Tg} {it it1 : Ir} {ifs ifs1 : Eo} {eelt etg eiter etg1 eiter1 : Expr} {eifs eifs1 : List Expr} {scope : Scope} {p2 : Pos} (o : Bool) (hc : X.calm = true) (nd : X.N.Nodup) (hN : X.N[i]? = some x) (hyl : X.env.scope.names.lookup x = some .local)
    (hsw : swapsWith (.ListComp eelt [⟨etg, eiter, eifs, 0⟩, ⟨etg1, eiter1, eifs1, 0⟩] scope p2) (some (.Name x py)) pos.line X.env = pure true) (hi : PI X etg eiter (tI X.K Γ ec W it)) (ok : BlkOk X.N X.env.scope scope own)
    (hsub : ∀ j ∈ slotsT tg, j ∈ own.map (·.2)) (hsub1 : ∀ j ∈ slotsT tg1, j ∈ own.map (·.2)) (hne : nb elt = true) (hni : nbI it1 = true)
    (hg : ∀ (s : Shared) (H : Hp) (C : Addr) (cl : List (Str × Addr)) (fp : List Addr), PG (X.blk s H scope (compEnvC scope cl C X.env) fp) etg (tG X.K tg)) (ht : ∀ (s : Shared) (H : Hp) (C : Addr) (cl : List (Str × Addr)) (fp : List Addr), PTs (X.blk s H scope (compEnvC scope cl C X.env) fp) eifs (tC X.K Γ ec W0 ifs))
    (hi1 : ∀ (s : Shared) (H : Hp) (C : Addr) (cl : List (Str × Addr)) (fp : List Addr), PI (X.blk s H scope (compEnvC scope cl C X.env) fp) etg1 eiter1 (tI X.K Γ ec W0 it1))
    (hg1 : ∀ (s : Shared) (H : Hp) (C : Addr) (cl : List (Str × Addr)) (fp : List Addr), PG (X.blk s H scope (compEnvC scope cl C X.env) fp) etg1 (tG X.K tg1)) (ht1 : ∀ (s : Shared) (H : Hp) (C : Addr) (cl : List (Str × Addr)) (fp : List Addr), PTs (X.blk s H scope (compEnvC scope cl C X.env) fp) eifs1 (tC X.K Γ ec W0 ifs1))
    (he : ∀ (s : Shared) (H : Hp) (C : Addr) (cl : List (Str × Addr)) (fp : List Addr), PE (X.blk s H scope (compEnvC scope cl C X.env) fp) eelt (tE X.K Γ ec W0 elt)) (hs : ∀ x, foldedSetIterable eiter X.env x = pure x) (hs1 : ∀ env x, foldedSetIterable eiter1 env x = pure x) :
    PS X (.Assign [.Name x py] (.ListComp eelt [⟨etg, eiter, eifs, 0⟩, ⟨etg1, eiter1, eifs1, 0⟩] scope p2) pos) (tS X.K Γ ec W (if o = true then .own i (.comp2 own elt tg it ifs tg1 it1 ifs1) else .set i (.comp2 own elt tg it ifs tg1 it1 ifs1))) := by
  have main := (snd_comp2 (W := W) (pos := p2) hc nd hi ok hsub hsub1 hne hni hg ht hi1 hg1 ht1 he hs hs1).2
  refine PS.conseq (ps_setLc2 hc nd hN hyl hsw hi ok hsub1 hg ht hi1 hg1 ht1 he hs hs1) fun D σ H h => ?_
  obtain ⟨F, O, ρ, k, en, w, kn⟩ := h
  refine main σ H _ ?_
  cases o with
  | true =>
    rw [if_pos rfl] at w
    unfold wpS at w
    refine ⟨F, O, ρ, _, _, en, w, fun d hd u H1 s1 r1 => ?_, kn.er1 en⟩
    cases d with
    | list ds =>
      obtain ⟨p, xs, rfl, hp, hp', hA⟩ := r1.f rfl ds rfl
      exact kn.nx _ hd _ _ H1 (en.own s1 hp hp' hA)
    | _ => exact hd.elim
  | false =>
    rw [if_neg Bool.false_ne_true] at w
    unfold wpS at w
    refine ⟨F, O, ρ, _, _, en, w, fun d hd u H1 s1 r1 => ?_, kn.er1 en⟩
    exact kn.nx _ hd O _ H1 ((en.stp s1).set (r1.n rfl))
theorem sns_unp {ts : Tgs} {es : List Expr} {kk : Nat} {tp : Pos} (hg : PG X (.Tuple es kk tp) (tG X.K (.t ts))) (he : SE X Γ ec W e v) (hn : nb e = true) (hs : swapsWithSole [.Tuple es kk tp] v pos.line X.env = pure false) (hw : swappedStores [.Tuple es kk tp] v X.env = pure none) :
    PS X (.Assign [.Tuple es kk tp] v pos) (tS X.K Γ ec W (.unp ts e)) := by
  refine PS.conseq (ps_asg he hg hs hw rfl) fun D σ H h => ?_
  obtain ⟨F, O, ρ, k, en, w, kn⟩ := h
  unfold wpS at w
  refine ⟨F, O, ρ, _, _, en, w, fun d hd u H1 s1 r1 => ?_, kn.er1 en⟩
  exact ⟨F, O, ρ, d, _, en.stp s1, r1.n hn, hd, fun ρ' hp σ' _ en' => kn.nx _ hp O σ' H1 en'⟩
theorem sns_par {j : Nat} {y : Str} {a b : Ex} {ea eb : Expr} {px py2 pt pt2 : Pos} {kt k2 : Nat} (hc : X.calm = true) (nd : X.N.Nodup) (hi : X.N[i]? = some x) (hj : X.N[j]? = some y) (hij : i ≠ j)
    (hx : X.env.scope.names.lookup x = some .local) (hy : X.env.scope.names.lookup y = some .local) (ha : SE X Γ ec W a ea) (hb : SE X Γ ec W b eb) (na : nb a = true) (nb' : nb b = true) (sa : starred ea = false) (sb : starred eb = false)
    (hw : swappedStores [.Tuple [.Name x px, .Name y py2] kt pt] (.Tuple [ea, eb] k2 pt2) X.env = pure (some [x, y])) :
    PS X (.Assign [.Tuple [.Name x px, .Name y py2] kt pt] (.Tuple [ea, eb] k2 pt2) pos) (tS X.K Γ ec W (.unp (.cons (.n i) (.cons (.n j) .nil)) (.tup (.cons a (.cons b .nil))))) := by
  refine PS.conseq (ps_par hc nd hi hj hij hx hy (pa_cons ha (pa_cons hb pa_nil (star_cons sb)) (star_cons sa)) hw rfl) fun D σ H h => ?_
  obtain ⟨F, O, ρ, k, en, w, kn⟩ := h
  simp only [wpS, wpE, wpX] at w
  refine ⟨F, O, ρ, _, _, en, w, fun d hd u H1 s1 r1 => ?_, kn.er1 en⟩
  refine ⟨F, O, ρ, _, _, en.stp s1, hd, fun d2 hd2 u2 H2 s2 r2 => ?_, (kn.er1 en).next s1⟩
  have hd3 : k.nx ((ρ.set i (some (.fz d))).set j (some (.fz d2))) := by
    simp only [fzs, Option.map_some, optQ, bindT, bindTs, tgsLen] at hd2
    exact hd2.2.2
  have en2 := (en.stp s1).stp s2
  exact ⟨u, u2, rfl, kn.nx _ hd3 O _ H2 ((en2.set ((r1.n na).stp (en.stp s1) s2)).set (r2.n nb'))⟩
theorem sns_frz {ss : Sts} {sts : List Stmt} (h : PSs X sts (tSs X.K Γ ec W ss)) : PSs X sts (tSs X.K Γ ec W (.cons (.frz i) ss)) := by
  refine PSs.conseq h fun D σ H h => ?_
  obtain ⟨F, O, ρ, k, en, w, kn⟩ := h
  unfold wpSs wpS at w
  split at w
  · rename_i d hd
    obtain ⟨a, h1, en2⟩ := en.freeze hd
    exact ⟨F, _, _, k, en2, w, kn⟩
  · exact w.elim
/-! += -/
theorem iop_mulW : OpR X (inplaceOp .Mult) (rI CMulW fun i j => .int (i * j)) := opI fun _ _ _ _ _ _ _ hc q => imul_int q hc.ok
def RAug (op : Operator) : V → V → Hp → VK → Prop := fun x y H Q => ∃ i j P, x = .int i ∧ y = .int j ∧ augF op (.int i) (.int j) P ∧ ∀ r, P (.int r) → Q (.int r) H
theorem ip_F (op : Operator) : PIp X op (RAug op) := by
  intro pins s σ H a b v u Q I rx ry h
  obtain ⟨i, j, P, rfl, rfl, q, hP⟩ := h
  cases op with
  | Add => exact iop_add pins s σ H _ _ v u Q I rx ry ⟨i, j, rfl, rfl, hP _ q⟩
  | Sub => exact iop_sub pins s σ H _ _ v u Q I rx ry ⟨i, j, rfl, rfl, hP _ q⟩
  | Mult => exact iop_mulW pins s σ H _ _ v u Q I rx ry ⟨i, j, rfl, rfl, q.1, hP _ q.2⟩
  | _ => exact q.elim
theorem augF_int {op : Operator} {a b : D} {P : D → Prop} (h : augF op a b P) : ∃ i j, a = .int i ∧ b = .int j := by
  cases op <;> cases a <;> first | exact h.elim | (cases b <;> first | exact h.elim | exact ⟨_, _, rfl, rfl⟩)
theorem augF_res {op : Operator} {a b : D} {P : D → Prop} (h : augF op a b P) : augF op a b fun r => P r ∧ ∃ z, r = .int z := by
  obtain ⟨i, j, rfl, rfl⟩ := augF_int h
  cases op <;> first | exact h.elim | exact ⟨h, _, rfl⟩ | exact ⟨h.1, h.2, _, rfl⟩
theorem sns_aug {op : Operator} (nd : X.N.Nodup) (hN : X.N[i]? = some x) (hx : Loc X.env.scope x) (hf : X.fn x = true ∨ X.env.scope.names.lookup x = some .local) (he : SE X Γ ec W e v) : PS X (.AugAssign (.Name x py) op v pos) (tS X.K Γ ec W (.aug i op e)) := by
  refine PS.conseq (ps_aug nd hN hx he (ip_F op) hf) fun D σ H h => ?_
  obtain ⟨F, O, ρ, k, en, w, kn⟩ := h
  unfold wpS at w
  split at w
  · rename_i d hd
    obtain ⟨z, h1, h2⟩ := en.fz hd
    refine ⟨z, h1, F, O, ρ, _, _, en, w, fun y hy u H1 s1 r1 => ?_, kn.er1 en⟩
    obtain ⟨a, b, rfl, rfl⟩ := augF_int hy
    cases h2
    refine ⟨a, b, _, rfl, r1.b.int, hy, fun r hr => ?_⟩
    exact kn.nx _ hr O _ H1 ((en.stp s1).set (.int r))
  · exact w.elim
/-! items stored -/
theorem owL_iff {ρ : Rho} {P : List D → Prop} (h : owL ρ i P) : ∃ ds, ρ[i]? = some (some (.ow (.list ds))) ∧ P ds := by
  unfold owL at h
  split at h
  · rename_i ds q; exact ⟨ds, q, h⟩
  · exact h.elim
theorem intQ_iff {d : D} {P : Int → Prop} (h : intQ d P) : ∃ z, d = .int z ∧ P z := by
  cases d <;> first | exact h.elim | exact ⟨_, rfl, h⟩
theorem lstQ_iff {d : D} {P : List D → Prop} (h : lstQ d P) : ∃ z, d = .list z ∧ P z := by
  cases d <;> first | exact h.elim | exact ⟨_, rfl, h⟩
theorem EnvR.owS {K : PySem.W.Frag} {F : Fm} {O : Addr → Prop} {H : Hp} {σ : L2.St} {ρ : Rho} {ds : List D} (en : EnvR K F O H σ ρ) (hi : ρ[i]? = some (some (.ow (.list ds)))) : ∃ a xs, σ[i]? = some (some (.ref a)) ∧ ¬ F.O0 a ∧ H a = some (.lst xs) ∧ DrA K O H xs ds := by
  obtain ⟨a, xs, ds', e, h1, h2, h3, h4, h5⟩ := en.ow hi
  cases e
  exact ⟨a, xs, h1, h3, h4, h5⟩
theorem sns_put {ix : Ex} {eix : Expr} {po ps : Pos} (he : SE X Γ ec W e v) (hn : nb e = true)
    (hs : swapsWithSole [.Subscript (.Name x po) eix ps] v pos.line X.env = pure false) (hw : swappedStores [.Subscript (.Name x po) eix ps] v X.env = pure none) (pg : PG X (.Subscript (.Name x po) eix ps) (gSub (tVar i) (tE X.K Γ ec W ix) rSetL)) :
    PS X (.Assign [.Subscript (.Name x po) eix ps] v pos) (tS X.K Γ ec W (.put i ix e)) := by
  refine PS.conseq (ps_asg he pg hs hw rfl) fun D σ H h => ?_
  obtain ⟨F, O, ρ, k, en, w, kn⟩ := h
  unfold wpS at w
  refine ⟨F, O, ρ, _, _, en, w, fun y hy u H1 s1 r1 => ?_, kn.er1 en⟩
  have en1 := en.stp s1
  obtain ⟨ds, hi, hy⟩ := owL_iff hy
  obtain ⟨a, xs, g1, g2, g3, g4⟩ := en1.owS hi
  refine ⟨.ref a, g1, F, O, ρ, _, _, en1, hy, fun z hz uz H2 s2 r2 => ?_, (kn.er1 en).next s1⟩
  obtain ⟨z, rfl, hz⟩ := intQ_iff hz
  obtain ⟨j, hj, hz⟩ := optQ_iff hz
  have en2 := en1.stp s2
  refine ⟨a, xs, z, j, rfl, r2.b.int, s2.keep _ _ (en1.ndo g2) g3, by rw [g4.length]; exact hj, ?_⟩
  exact kn.nx _ hz O _ _ (en2.mut hi g1 ((g4.stp en1 s2).set j ((r1.n hn).stp en1 s2)))
/-- an item read, for a change of it -/
def rGetL (K : PySem.W.Frag) : V → V → Hp → VK → Prop := fun o i H Q => ∃ p xs k v, o = .ref p ∧ i = .int k ∧ SqL K H p xs ∧ atI xs k = some v ∧ Q v H
theorem get_list : PGet X (rGetL X.K) := by
  intro pins s σ H o i ov iv Q I ro ri h
  obtain ⟨p, xs, k, z, rfl, rfl, hq, he, q⟩ := h
  cases ro
  obtain ⟨t, rfl⟩ := ri
  obtain ⟨its, r, pl, hz⟩ := I.list hq
  obtain ⟨j, h1, h2, h3, h4, h5⟩ := atI_get he
  obtain ⟨w, ew, rw'⟩ := r.get h2
  have hl := r.length
  have hn := line63
  have fin : EP X pins σ Q w s := ⟨z, H, I, rw', q⟩
  by_cases h0 : 0 ≤ k
  · have hj : k.toNat = j := by
      rw [seqIndex_of h0 h5] at h1
      exact Option.some.inj h1
    exact wpAny_getItem_list pl.isList h0 (by omega) (by rw [hj]; simpa using ew) fin
  · have hj : (k + (its.toArray.size : Int)).toNat = j := by
      rw [seqIndex_neg (by omega) h4] at h1
      rw [List.size_toArray, ← hl]
      exact Option.some.inj h1
    exact wpAny_getItem_list_neg pl.isList (by omega) (by rw [List.size_toArray] <;> omega) (by omega) (by rw [hj]; simpa using ew) fin
theorem sns_augp {ix : Ex} {eix : Expr} {po ps : Pos} {op : Operator} (hN : X.N[i]? = some x) (hv : Vis X.env.scope x) (hd : (x == ("__debug__" : Str)) = false) (hcd : (x == ("__classdict__" : Str)) = false) (hix : SE X Γ ec W ix eix) (he : SE X Γ ec W e v)
    (ha : ∀ ov iv new, augStore eix ov iv new = (do holding [new, ov, iv] (setItem ov iv new); release [new, ov, iv] []; pure .next)) :
    PS X (.AugAssign (.Subscript (.Name x po) eix ps) op v pos) (tS X.K Γ ec W (.augp i ix op e)) := by
  refine PS.conseq (ps_augS (pe_var hN hv hd hcd) hix get_list he (ip_F op) set_list ha) fun D σ H h => ?_
  obtain ⟨F, O, ρ, k, en, w, kn⟩ := h
  unfold wpS at w
  obtain ⟨ds, hi, w⟩ := owL_iff w
  obtain ⟨a, xs, g1, g2, g3, g4⟩ := en.owS hi
  refine ⟨.ref a, g1, F, O, ρ, _, _, en, w, fun z hz uz H1 s1 r1 => ?_, kn.er1 en⟩
  obtain ⟨z, rfl, hz⟩ := intQ_iff hz
  obtain ⟨d, hd, hz⟩ := optQ_iff hz
  have en1 := en.stp s1
  have g3' := s1.keep _ _ (en.ndo g2) g3
  have g4' := g4.stp en s1
  obtain ⟨w1, e1, e2⟩ := g4'.atI hd
  refine ⟨a, xs, z, w1, rfl, r1.b.int, SqL.of g3', e1, F, O, ρ, _, _, en1, hz, fun y hy u H2 s2 r2 => ?_, (kn.er1 en).next s1⟩
  obtain ⟨p, q, rfl, rfl⟩ := augF_int hy
  cases e2
  refine ⟨p, q, _, rfl, r2.b.int, hy, fun r hr => ?_⟩
  obtain ⟨j, hj, hr⟩ := optQ_iff hr
  have en2 := en1.stp s2
  refine ⟨a, xs, z, j, rfl, r1.b.int, s2.keep _ _ (en1.ndo g2) g3', by rw [g4.length]; exact hj, ?_⟩
  exact kn.nx _ hr O _ _ (en2.mut hi g1 ((g4'.stp en1 s2).set j (.int r)))
/-! methods that change a list -/
theorem few1 {cp : Pos} (hs : starred v = false) : ((backTo cp (starEach [v] X.env)).all (fun x => !x.1) && (backToKw cp (keywordEach [] X.env)).all (fun x => x.1.isSome)
      && decide (([v] : List Expr).length + ([] : List Keyword).length + (if ([] : List Keyword).isEmpty then 0 else 1) < 30)) = true := by
  rw [star_cons hs]
  rfl
theorem sns_app {po ap cp : Pos} (hN : X.N[i]? = some x) (hv : Vis X.env.scope x) (hd : (x == ("__debug__" : Str)) = false) (hcd : (x == ("__classdict__" : Str)) = false) (he : SE X Γ ec W e v) (hn : nb e = true) (hs : starred v = false) (hl : (ap.endLine == cp.line) = true) :
    PS X (.Expr (.Call (.Attribute (.Name x po) "append" ap) [v] [] cp) pos) (tS X.K Γ ec W (.app i e)) := by
  refine PS.conseq (ps_expr (pe_bm PySem.F.plainAttrs_list PySem.F.slot_list_append PySem.F.type_list_append mt_append (pe_var hN hv hd hcd) (pa_cons he pa_nil (star_cons hs)) rfl (few1 hs) hl (star_cons hs) rfl) rfl) fun D σ H h => ?_
  obtain ⟨F, O, ρ, k, en, w, kn⟩ := h
  unfold wpS at w
  obtain ⟨ds, hi, w⟩ := owL_iff w
  obtain ⟨a, xs, g1, g2, g3, g4⟩ := en.owS hi
  refine ⟨.ref a, g1, .inl ⟨rfl, _, SqL.of g3⟩, F, O, ρ, _, _, en, w, fun y hy u H1 s1 r1 => ?_, kn.er1 en⟩
  refine ⟨a, xs, u, rfl, rfl, s1.keep _ _ (en.ndo g2) g3, by rw [g4.length]; exact hy.1, ?_⟩
  exact kn.nx _ hy.2 O _ _ ((en.stp s1).mut hi g1 ((g4.stp en s1).append (.cons (r1.n hn) .nil)))
theorem sns_ext {po ap cp : Pos} (hN : X.N[i]? = some x) (hv : Vis X.env.scope x) (hd : (x == ("__debug__" : Str)) = false) (hcd : (x == ("__classdict__" : Str)) = false) (he : SE X Γ ec W e v) (hn : nb e = true) (hs : starred v = false) (hl : (ap.endLine == cp.line) = true) :
    PS X (.Expr (.Call (.Attribute (.Name x po) "extend" ap) [v] [] cp) pos) (tS X.K Γ ec W (.ext i e)) := by
  refine PS.conseq (ps_expr (pe_bm PySem.F.plainAttrs_list PySem.F.slot_list_extend PySem.F.type_list_extend mt_extend (pe_var hN hv hd hcd) (pa_cons he pa_nil (star_cons hs)) rfl (few1 hs) hl (star_cons hs) rfl) rfl) fun D σ H h => ?_
  obtain ⟨F, O, ρ, k, en, w, kn⟩ := h
  unfold wpS at w
  obtain ⟨ds, hi, w⟩ := owL_iff w
  obtain ⟨a, xs, g1, g2, g3, g4⟩ := en.owS hi
  refine ⟨.ref a, g1, .inl ⟨rfl, _, SqL.of g3⟩, F, O, ρ, _, _, en, w, fun y hy u H1 s1 r1 => ?_, kn.er1 en⟩
  obtain ⟨es, rfl, hy⟩ := lstQ_iff hy
  have hd := r1.n hn
  obtain ⟨b, ys, rfl, h1, h2⟩ := (BDr.of (N := F.O0) hd).lst
  refine ⟨a, b, xs, ys, rfl, rfl, s1.keep _ _ (en.ndo g2) g3, h1, by rw [g4.length, h2.length]; exact hy.1, ?_⟩
  exact kn.nx _ hy.2 O _ _ ((en.stp s1).mut hi g1 ((g4.stp en s1).append h2))
/-! the rest -/
theorem sns_expr (he : SE X Γ ec W e v) (hs : swapsWith v none pos.line X.env = pure false) : PS X (.Expr v pos) (tS X.K Γ ec W (.expr e)) := by
  refine PS.conseq (ps_expr he hs) fun D σ H h => ?_
  obtain ⟨F, O, ρ, k, en, w, kn⟩ := h
  unfold wpS at w
  exact ⟨F, O, ρ, _, _, en, w, fun y hy u H1 s1 r1 => kn.nx _ hy O _ H1 (en.stp s1), kn.er1 en⟩
theorem sns_ret (he : SE X Γ ec W e v) : PS X (.Return (some v) pos) (tS X.K Γ ec W (.ret e)) := by
  refine PS.conseq (ps_ret he) fun D σ H h => ?_
  obtain ⟨F, O, ρ, k, en, w, kn⟩ := h
  unfold wpS at w
  exact ⟨F, O, ρ, _, _, en, w, fun y hy u H1 s1 r1 => kn.rt _ hy O σ H1 ρ u (en.stp s1) (r1.b.low (en.stp s1)), kn.er1 en⟩
theorem sns_ife {c : Expr} {t : Ex} {a b : Sts} {sa sb : List Stmt} (ht : PT X c (tT X.K Γ ec W t)) (ha : PSs X sa (tSs X.K Γ ec W a)) (hb : PSs X sb (tSs X.K Γ ec W b)) : PS X (.If c sa sb pos) (tS X.K Γ ec W (.ife t a b)) := by
  refine PS.conseq (ps_if ht ha hb) fun D σ H h => ?_
  obtain ⟨F, O, ρ, k, en, w, kn⟩ := h
  unfold wpS at w
  refine ⟨F, O, ρ, _, _, en, w, fun d hd => ?_, kn.er1 en⟩
  obtain ⟨c, hc, q⟩ := optQ_iff hd
  refine ⟨c, hc, fun H1 s1 => ?_⟩
  cases c with
  | true =>
    rw [if_pos rfl] at q ⊢
    exact ⟨F, O, ρ, k, en.stp s1, q, kn⟩
  | false =>
    rw [if_neg Bool.false_ne_true] at q ⊢
    exact ⟨F, O, ρ, k, en.stp s1, q, kn⟩
theorem sns_nil : PSs X [] (tSs X.K Γ ec W .nil) := by
  refine PSs.conseq pss_nil fun D σ H h => ?_
  obtain ⟨F, O, ρ, k, en, w, kn⟩ := h
  unfold wpSs at w
  exact kn.nx _ w O σ H en
theorem sns_cons {s : DL.St} {ss : Sts} {st : Stmt} {sts : List Stmt} (h1 : PS X st (tS X.K Γ ec W s)) (h2 : PSs X sts (tSs X.K Γ ec W ss)) : PSs X (st :: sts) (tSs X.K Γ ec W (.cons s ss)) := by
  refine PSs.conseq (pss_cons h1 h2) fun D σ H h => ?_
  obtain ⟨F, O, ρ, k, en, w, kn⟩ := h
  unfold wpSs at w
  exact ⟨F, O, ρ, _, en, w, ⟨fun ρ' hn O' σ' H' en' => ⟨F, O', ρ', k, en', hn, kn⟩, kn.rt, kn.bk, kn.ct, kn.er⟩⟩
theorem Fm.at_O0 {F : Fm} {O : Addr → Prop} {H : Hp} : (F.at O H).O0 = F.O0 := rfl
theorem sns_loop {tg : Tg} {it : Ir} {body : Sts} {t i' : Expr} {sb : List Stmt} (hp : PassesOwn (model X.prog X.w) X.A X.env X.xe) (hc : X.calm = true) (hi : PI X t i' (tI X.K Γ ec W it)) (hg : PG X t (tG X.K tg)) (hb : PSs X sb (tSs X.K Γ ec W body)) (hn : nbI it = true)
    (hs : ∀ x, foldedSetIterable i' X.env x = pure x) : PS X (.For t i' sb [] pos) (tS X.K Γ ec W (.loop tg it body)) := by
  refine PS.conseq (ps_for hp hc hi hg hb hs) fun D σ H h => ?_
  obtain ⟨F, O, ρ, k, en, w, kn⟩ := h
  unfold wpS at w
  refine ⟨F, O, ρ, _, _, en, w, fun ds hds J H1 s1 wk => ?_, kn.er1 en⟩
  have en1 := en.stp s1
  obtain ⟨G, Y, walk, hGR, hY⟩ := wk.2 hn
  generalize hst : (fun (d : PyData) (ρ1 : Rho) (kk : Rho → Prop) => bindT tg d ρ1 fun ρ2 => wpSs Γ body ρ2 { k with nx := kk, ct := kk, bk := k.nx }) = step at hds
  have later : ∀ {O2 : Addr → Prop} {H2 : Hp} {σ2 : L2.St} {ρ2 : Rho}, EnvR X.K (F.at O H1) O2 H2 σ2 ρ2 → Rf O H1 O2 H2 := fun e2 b o n q => en1.stood e2 n q
  have kn' : Kon X.K ec W (F.at O H1) k D := ⟨fun ρ' h O' σ' H' e' => kn.nx ρ' h O' σ' H' (en1.back e'), fun d h O' σ' H' ρ' v e' hd => kn.rt d h O' σ' H' ρ' v (en1.back e') hd, fun ρ' h O' σ' H' e' => kn.bk ρ' h O' σ' H' (en1.back e'),
    fun ρ' h O' σ' H' e' => kn.ct ρ' h O' σ' H' (en1.back e'), fun x ρ' h O' σ' H' e' => kn.er x ρ' h O' σ' H' (en1.back e')⟩
  refine for_it walk (fun i σ' H' => ∃ O' ρ', EnvR X.K (F.at O H1) O' H' σ' ρ' ∧ forW step (ds.drop i) ρ' k.nx) ⟨O, ρ, en1.into, by rw [List.drop_zero]; exact hds⟩ ?_ ?_ ?_
  · rintro i σ' H' _ ⟨O', ρ', e2, _⟩
    exact hGR _ _ (later e2)
  · rintro i x σ' H' H'' hi' ⟨O', ρ', e2, hf⟩ y
    obtain ⟨sm, d, hd, hdr⟩ := hY _ _ i x H'' (later e2) e2.dom hi' y
    have e3 := e2.stp (Stp.same e2 sm)
    have edrop : ds.drop i = d :: ds.drop (i + 1) := by
      obtain ⟨h1, h2⟩ := List.getElem?_eq_some_iff.mp hd
      rw [List.drop_eq_getElem_cons h1, h2]
    rw [edrop] at hf
    unfold forW at hf
    have hf' : bindT tg d ρ' fun ρ2 => wpSs Γ body ρ2 { k with nx := fun ρ'' => forW step (ds.drop (i + 1)) ρ'' k.nx, ct := fun ρ'' => forW step (ds.drop (i + 1)) ρ'' k.nx, bk := k.nx } := by
      rw [← hst] at hf ⊢
      exact hf
    refine ⟨F.at O H1, O', ρ', d, _, e3, hdr, hf', fun ρ1 h1 σ1 on e4 => ?_⟩
    exact ⟨F.at O H1, O', ρ1, _, e4, h1, ⟨fun ρ2 h2 O2 σ2 H2 e5 => ⟨O2, ρ2, e5, h2⟩, kn'.rt, kn'.nx, fun ρ2 h2 O2 σ2 H2 e5 => ⟨O2, ρ2, e5, h2⟩, kn'.er⟩⟩
  · rintro σ' H' ⟨O', ρ', e2, hf⟩
    rw [List.drop_length] at hf
    exact kn'.nx ρ' hf O' σ' H' e2
theorem sns_whl {t : Ex} {c : Expr} {body : Sts} {sb : List Stmt} (hp : PassesOwn (model X.prog X.w) X.A X.env X.xe) (ht : PT X c (tT X.K Γ ec W t)) (hb : PSs X sb (tSs X.K Γ ec W body)) : PS X (.While c sb [] pos) (tS X.K Γ ec W (.whl t body)) := by
  refine PS.conseq (ps_while hp ht hb) fun D σ H h => ?_
  obtain ⟨F, O, ρ, k, en, w, kn⟩ := h
  unfold wpS at w
  obtain ⟨I, ⟨m0, h0⟩, turn⟩ := w
  refine ⟨fun m σ' H' => ∃ O' ρ', EnvR X.K F O' H' σ' ρ' ∧ I m ρ', ⟨m0, O, ρ, en, h0⟩, ?_⟩
  rintro m σ' H' ⟨O', ρ', e2, hI⟩
  refine ⟨F, O', ρ', _, _, e2, turn m ρ' hI, fun d hd => ?_, kn.er1 e2⟩
  obtain ⟨c, hc, q⟩ := optQ_iff hd
  refine ⟨c, hc, fun H1 s1 => ?_⟩
  cases c with
  | true =>
    rw [if_pos rfl] at q ⊢
    refine ⟨fun σ2 H2 => ∃ O2 ρ2, EnvR X.K F O2 H2 σ2 ρ2 ∧ ∃ m', m' < m ∧ I m' ρ2, ?_, ?_⟩
    · rintro σ2 H2 ⟨O2, ρ2, e3, m', hm, hI'⟩
      exact ⟨m', hm, O2, ρ2, e3, hI'⟩
    · exact ⟨F, O', ρ', _, e2.stp s1, q, ⟨fun ρ2 h2 O2 σ2 H2 e5 => ⟨O2, ρ2, e5, h2⟩, kn.rt, kn.nx, fun ρ2 h2 O2 σ2 H2 e5 => ⟨O2, ρ2, e5, h2⟩, kn.er⟩⟩
  | false =>
    rw [if_neg Bool.false_ne_true] at q ⊢
    exact kn.nx ρ' q O' σ' H1 (e2.stp s1)
theorem sns_brk : PS X (.Break pos) (tS X.K Γ ec W .brk) := by
  refine PS.conseq ps_break fun D σ H h => ?_
  obtain ⟨F, O, ρ, k, en, w, kn⟩ := h
  unfold wpS at w
  exact kn.bk ρ w O σ H en
theorem sns_cnt : PS X (.Continue pos) (tS X.K Γ ec W .cnt) := by
  refine PS.conseq ps_continue fun D σ H h => ?_
  obtain ⟨F, O, ρ, k, en, w, kn⟩ := h
  unfold wpS at w
  exact kn.ct ρ w O σ H en
theorem sns_pss : PS X (.Pass pos) (tS X.K Γ ec W .pss) := by
  refine PS.conseq ps_pass fun D σ H h => ?_
  obtain ⟨F, O, ρ, k, en, w, kn⟩ := h
  unfold wpS at w
  exact kn.nx ρ w O σ H en
theorem sns_retn : PS X (.Return none pos) (tS X.K Γ ec W .retn) := by
  refine PS.conseq ps_retN fun D σ H h => ?_
  obtain ⟨F, O, ρ, k, en, w, kn⟩ := h
  unfold wpS at w
  exact kn.rt _ w O σ H ρ _ en .non
theorem sns_dead {st : Stmt} : PS X st (tS X.K Γ ec W .dead) := ⟨fun pins s σ H D I h => by
  obtain ⟨F, O, ρ, k, en, w, kn⟩ := h
  unfold wpS at w
  exact w.elim⟩
theorem sns_rais {C : Addr} {m : Str} {j : Nat} {p p2 pp : Pos} (hc : X.calm = true) (tk : Takes X W) (hm : X.mg x = some (.ref C)) (he : ec x = .ref C) (q : PySem.W.excIn X.K C [.type "ValueError", .type "Exception", .type "BaseException", .type "object"] "ValueError.__new__" = true) (kC : PySem.W.keepIn X.K (.ref C) = true)
    (r : Raises X (.ref C)) (hg : Gl X x) (hdb : (x == ("__debug__" : Str)) = false) : PS X (.Raise (some (.Call (.Name x p) [.Constant (.str m) j p2] [] pp)) none pos) (tS X.K Γ ec W (.rais x)) := by
  refine PS.conseq (ps_raise hc tk (pmk_own PySem.F.excBase_ValueError q hm kC r hg hdb)) fun D σ H h => ?_
  obtain ⟨F, O, ρ, k, en, w, kn⟩ := h
  unfold wpS at w
  have := kn.er x ρ w O σ H en
  rw [he] at this
  exact this
end
end DL

set_option Elab.async false
set_option linter.all false
set_option maxRecDepth 100000
set_option maxHeartbeats 16000000
namespace DL
open PySem PySem.Spec PyProof.Rows L2

section
variable {X : Cx} {G : Glb} {S : Sx} {Γ : Gam} {ec : Str → Value} {W : WX} {e : Ex} {v : Expr} {pos py : Pos} {i : Nat} {x : Str}
/-! how a value is stored -/
theorem sw_no {v : Expr} {t : Option Expr} {l : Nat} {env : Env} (h : isCmp v = false) : swapsWith v t l env = pure false := by
  cases v <;> first | rfl | (simp [isCmp] at h)
theorem sw_sole {v t : Expr} {l : Nat} {env : Env} (h : isCmp v = false) : swapsWithSole [t] v l env = pure false := sw_no h
def isTupE : Expr → Bool
  | .Tuple _ _ _ => true
  | _ => false
theorem ss_no {v : Expr} {es : List Expr} {k : Nat} {p : Pos} {env : Env} (h : isTupE v = false) : swappedStores [.Tuple es k p] v env = pure none := by
  cases v <;> first | rfl | (simp [isTupE] at h)
theorem ss_sub {v o ix : Expr} {p : Pos} {env : Env} : swappedStores [.Subscript o ix p] v env = pure none := by
  cases v <;> rfl
theorem ss_form {es vs : List Expr} {k k2 : Nat} {p p2 : Pos} {env : Env} (hsc : env.scope = S.sc) (hk : S.sc.kind = .function) : swappedStores [.Tuple es k p] (.Tuple vs k2 p2) env =
    (if (!(es.length == 2 || es.length == 3) || vs.length != es.length) = true then pure none else if (vs.any isStar) = true then pure none
      else if ((swNames S.sc es).length != es.length || (swNames S.sc es).eraseDups.length != (swNames S.sc es).length) = true then pure none
      else if vs.all (foldedForSure 8) = true then pure none else if vs.all (constantsAlone 8) = true then (do unsupported "assign.tuple-of-constant-expressions:order-of-the-stores"; pure (some (swNames S.sc es))) else pure (some (swNames S.sc es))) := by
  have hb : env.blockKind = .function := by unfold Env.blockKind; rw [hsc, hk]; rfl
  have hkd : ∀ x, env.kindOf x = S.sc.names.lookup x := fun x => by unfold Env.kindOf; rw [hsc]
  have hn : swNames S.sc es = es.filterMap fun
    | .Name id pos => if env.kindOf id == some .local && pos.line == swLine es then some id else none
    | _ => none := by
    unfold swNames
    congr 1
    funext e
    cases e <;> first | rfl | (simp only [hkd])
  rw [hn]
  unfold swappedStores
  rw [hb]
  have e0 : (ScopeKind.function != ScopeKind.function) = false := rfl
  simp only [e0, Bool.or_false]
  rfl
theorem ss_noswap {v : Expr} {es : List Expr} {k : Nat} {p : Pos} {env : Env} (hsc : env.scope = S.sc) (hk : S.sc.kind = .function) (h : noswap S es v = true) : swappedStores [.Tuple es k p] v env = pure none := by
  cases v with
  | Tuple vs k2 p2 =>
    rw [ss_form hsc hk]
    unfold noswap at h
    by_cases h1 : (!(es.length == 2 || es.length == 3) || vs.length != es.length) = true
    · rw [if_pos h1]
    · rw [if_neg h1]
      by_cases h2 : (vs.any isStar) = true
      · rw [if_pos h2]
      · rw [if_neg h2]
        by_cases h3 : ((swNames S.sc es).length != es.length || (swNames S.sc es).eraseDups.length != (swNames S.sc es).length) = true
        · rw [if_pos h3]
        · rw [if_neg h3]
          by_cases h4 : vs.all (foldedForSure 8) = true
          · rw [if_pos h4]
          · exfalso
            rw [Bool.or_eq_true, Bool.or_eq_true, Bool.or_eq_true] at h
            rcases h with ((h | h) | h) | h
            · exact h1 h
            · exact h2 h
            · exact h3 h
            · exact h4 h
  | _ => exact ss_no rfl
theorem ss_swap {ts : Tgs} {es : List Expr} {k : Nat} {p : Pos} {env : Env} (hsc : env.scope = S.sc) (hk : S.sc.kind = .function) (h : swap2 S ts es e v = true) :
    ∃ (i j : Nat) (x y : Str) (px py : Pos) (a b : Ex) (ea eb : Expr) (k2 : Nat) (p2 : Pos), ts = .cons (.n i) (.cons (.n j) .nil) ∧ es = [.Name x px, .Name y py] ∧ e = .tup (.cons a (.cons b .nil)) ∧ v = .Tuple [ea, eb] k2 p2 ∧ i ≠ j ∧ S.sc.names.lookup x = some .local ∧ S.sc.names.lookup y = some .local ∧
      starred ea = false ∧ starred eb = false ∧ swappedStores [.Tuple es k p] v env = pure (some [x, y]) := by
  unfold swap2 at h
  split at h
  · rename_i i j x px y py a b ea eb k2 p2
    simp only [Bool.and_eq_true, decide_eq_true_eq] at h
    obtain ⟨⟨⟨⟨⟨⟨⟨⟨h1, h2⟩, h3⟩, h4⟩, h5⟩, h6⟩, h7⟩, h8⟩, h9⟩ := h
    refine ⟨i, j, x, y, px, py, a, b, ea, eb, k2, p2, rfl, rfl, rfl, rfl, h5, h1, h2, by simpa using h6, by simpa using h7, ?_⟩
    rw [ss_form hsc hk, h3]
    have s1 : isStar ea = false := by cases ea <;> first | rfl | (simp [starred] at h6)
    have s2 : isStar eb = false := by cases eb <;> first | rfl | (simp [starred] at h7)
    have h8' : ([ea, eb].all (foldedForSure 8)) = false := by rw [Bool.not_eq_true'] at h8; exact h8
    have h9' : ([ea, eb].all (constantsAlone 8)) = false := by rw [Bool.not_eq_true'] at h9; exact h9
    rw [if_neg (by simp), if_neg (by simp [s1, s2]), if_neg (by rw [h4]; simp), if_neg (by rw [h8']; decide), if_neg (by rw [h9']; decide)]
  · cases h
/-! try -/
def constV : D → V
  | .int i => .int i
  | .bool b => .bl b
  | .str s => .str s
  | _ => .non
theorem pe_const {X : Cx} {d : D} (hc : constD e = some d) (h : mtE Γ S e v = true) : PE X v (L2.tC (constV d)) ∧ ∀ K O H, Dr K O H (constV d) d := by
  cases e with
  | int i =>
    cases v with
    | Constant c k p =>
      cases c with
      | int j => simp only [mtE, decide_eq_true_eq] at h; subst h; cases hc; exact ⟨pe_int, fun _ _ _ => .int i⟩
      | _ => simp [mtE] at h
    | _ => simp [mtE] at h
  | bl i =>
    cases v with
    | Constant c k p =>
      cases c with
      | bool j => simp only [mtE, beq_iff_eq] at h; subst h; cases hc; exact ⟨pe_bl, fun _ _ _ => .bl i⟩
      | _ => simp [mtE] at h
    | _ => simp [mtE] at h
  | non =>
    cases v with
    | Constant c k p =>
      cases c with
      | none => cases hc; exact ⟨pe_non, fun _ _ _ => .non⟩
      | _ => simp [mtE] at h
    | _ => simp [mtE] at h
  | str i =>
    cases v with
    | Constant c k p =>
      cases c with
      | str j => simp only [mtE, decide_eq_true_eq] at h; subst h; cases hc; exact ⟨pe_str, fun _ _ _ => .str i⟩
      | _ => simp [mtE] at h
    | _ => simp [mtE] at h
  | _ => simp [constD] at hc
theorem sns_try {body : Sts} {c : Ex} {d : D} {sb : List Stmt} {np p1 p2 : Pos} {r : Expr} {cx : Addr} (hs : X.stack = X.env :: X.outer) (hf : X.env.frame = some X.env.locals) (tk : Takes X W) (hm : X.mg x = some (.ref cx)) (hec : ec x = .ref cx) (hg : Gl X x) (hdb : (x == ("__debug__" : Str)) = false)
    (hone : ∀ y ∈ Γ.exs, PySem.W.exmOne X.K (ec y) (ec x) = some (decide (y = x)))
    (hb : ∀ (W2 : WX) (pn : List (Addr × Obj)) (xe : Value → Shared → Prop), Takes (X.tr pn xe) W2 → PassesOwn (model X.prog X.w) X.A X.env xe → PSs (X.tr pn xe) sb (tSs X.K Γ ec W2 body))
    (hd : constD c = some d) (hr : mtE Γ S c r = true) :
    PS X (.Try sb [.ExceptHandler (some (.Name x np)) none [.Return (some r) p1] p2] [] [] pos) (tS X.K Γ ec W (.try1 body x c)) := by
  refine PS.conseq (ps_try_only (ts := fun _ _ _ => tRet (L2.tC (constV d))) hs hf (c := .ref cx) ⟨hg, hdb, .inl hm⟩ tk hb (fun a oe cls dd pn _ _ => pss_one (ps_ret (pe_const hd hr).1))) fun D σ H h => ?_
  obtain ⟨F, O, ρ, k, en, w, kn⟩ := h
  unfold wpS at w
  refine ⟨F, O, ρ, _, en, w, ⟨kn.nx, kn.rt, kn.bk, kn.ct, fun y ρ' hy O' σ' H' en' => ?_⟩⟩
  obtain ⟨hy1, hy2⟩ := hy
  have h1 := hone y hy1
  rw [hec] at h1
  refine ⟨decide (y = x), h1, fun b a na => ?_, fun b => ?_⟩
  · rw [if_pos (of_decide_eq_true b)] at hy2
    rw [hd] at hy2
    exact kn.rt d hy2 O' σ' H' ρ' _ en' ((pe_const (X := X) hd hr).2 _ _ _)
  · rw [if_neg (of_decide_eq_false b)] at hy2
    exact kn.er y ρ' hy2 O' σ' H' en'
end
section
variable {G : Glb}
theorem isFrz_of {s : DL.St} (h : isFrz s = true) : ∃ i, s = .frz i := by
  cases s <;> first | (simp [isFrz] at h; done) | exact ⟨_, rfl⟩
theorem any_of {f : Str} {l : List Str} (h : (l.any fun g => decide (g = f)) = true) : f ∈ l := by
  rw [List.any_eq_true] at h
  obtain ⟨x, h1, h2⟩ := h
  have e := of_decide_eq_true h2
  subst e
  exact h1
theorem AtS.slot {S : Sx} {X : Cx} (h : AtS G S X) {i : Nat} {x : Str} {p : Pos} (q : slotB S i (.Name x p) = true) : X.N[i]? = some x ∧ Loc X.env.scope x ∧ (X.fn x = true ∨ X.env.scope.names.lookup x = some .local) ∧ Vis X.env.scope x ∧ (x == ("__debug__" : Str)) = false ∧ (x == ("__classdict__" : Str)) = false := by
  simp only [slotB, Bool.and_eq_true, decide_eq_true_eq] at q
  obtain ⟨⟨q1, q2⟩, q3⟩ := q
  obtain ⟨l1, l2⟩ := locB_of q2
  obtain ⟨n1, n2⟩ := nm_of q3
  rw [← h.at_.sc] at l1 l2
  rw [← h.at_.fn] at l2
  exact ⟨by rw [h.at_.N]; exact q1, l1, l2, l1.elim .inl fun z => .inr (.inl z), n1, n2⟩
theorem slotB_name {S : Sx} {i : Nat} {o : Expr} (h : slotB S i o = true) : ∃ x p, o = .Name x p := by
  cases o with
  | Name x p => exact ⟨x, p, rfl⟩
  | _ => simp [slotB] at h
theorem aug_ok {e : Expr} (h : isSlice e = false) : ∀ ov iv new, augStore e ov iv new = (do holding [new, ov, iv] (setItem ov iv new); release [new, ov, iv] []; pure .next) := by
  intro ov iv new
  cases e <;> first | rfl | (simp [isSlice] at h)
theorem AtS.tr {S : Sx} {X : Cx} (h : AtS G S X) (pn : List (Addr × Obj)) (xe : Value → Shared → Prop) (hp : PassesOwn (model X.prog X.w) X.A X.env xe) : AtS G S (X.tr pn xe) where
  at_ := ⟨⟨h.at_.ok.prog, h.at_.ok.w, h.at_.ok.K, h.at_.ok.mg, h.at_.ok.base, h.at_.ok.calm, h.at_.ok.room, h.at_.ok.nd⟩, h.at_.N, h.at_.sc, h.at_.fn⟩
  stk := h.stk
  frm := h.frm
  kind := h.kind
  psn := hp
/-- name = e, whatever the expression -/
theorem snd_asg (g : GOk G) {S : Sx} {X : Cx} {W : WX} (h : AtS G S X) (tk : Takes X W) (o : Bool) {i : Nat} {x : Str} {py : Pos} {e : Ex} {v : Expr} {pos : Pos} (hs : slotB S i (.Name x py) = true) (he : mtE G.Γ S e v = true) (hn : nb e = true) (hf : o = true → frs e = true) (ha : asgB S x py v = true) :
    PS X (.Assign [.Name x py] v pos) (tS X.K G.Γ G.ec W (if o = true then .own i e else .set i e)) := by
  obtain ⟨s1, s2, s3, s4, s5, s6⟩ := h.slot hs
  have i1 := sndE g e v X S W h.at_ tk he
  have plain : swapsWith v (some (.Name x py)) pos.line X.env = pure false → PS X (.Assign [.Name x py] v pos) (tS X.K G.Γ G.ec W (if o = true then .own i e else .set i e)) := fun q => by
    cases o with
    | true => exact sns_own h.at_.ok.nd s1 s2 s3 i1.pe (hf rfl) q
    | false => exact sns_set h.at_.ok.nd s1 s2 s3 i1.pe hn q
  by_cases hc : isCmp v = false
  · exact plain (sw_no hc)
  · cases v with
    | ListComp xe gs scope p2 =>
      unfold asgB at ha
      simp only at ha
      split at ha
      · rename_i hl
        rw [Bool.and_eq_true] at ha
        have hy : X.env.scope.names.lookup x = some .local := by rw [h.at_.sc]; exact hl
        have hsw : swapsWith (.ListComp xe gs scope p2) (some (.Name x py)) pos.line X.env = pure true := sw_true (by rw [h.at_.sc]; exact h.kind) hy ha.1 (by simpa using ha.2)
        cases e with
        | comp own elt tg it ifs =>
          match gs, he, hsw with
          | [], he, _ => simp [mtE] at he
          | [⟨_, _, _, _⟩, ⟨_, _, _, _⟩], he, _ => simp [mtE] at he
          | _ :: _ :: _ :: _, he, _ => simp [mtE] at he
          | [⟨t, i', cs, n⟩], he, hsw =>
            simp only [mtE, Bool.and_eq_true, decide_eq_true_eq] at he
            obtain ⟨⟨⟨⟨⟨⟨⟨rfl, h1⟩, h2⟩, h3⟩, h4⟩, h5⟩, h6⟩, h7⟩ := he
            have h1' : blkC X.N X.env.scope scope own = true := by rw [h.at_.N, h.at_.sc]; exact h1
            exact sns_setLc o h.at_.ok.calm h.at_.ok.nd s1 hy hsw (sndI g it i' t X S W h.at_ tk tg (blkS S scope) h3 h4) (blkOk_by h1') (own_of h2) h6
              (fun s H C cl fp => (h.at_.blk s H scope C cl fp).tgt h3)
              (fun s H C cl fp => sndC g ifs cs _ _ _ (h.at_.blk s H scope C cl fp) takes0 h7)
              (fun s H C cl fp => (sndE g elt xe _ _ _ (h.at_.blk s H scope C cl fp) takes0 h5).pe)
              (foldS (mtI_set h4))
        | comp2 own elt tg it ifs tg1 it1 ifs1 =>
          match gs, he, hsw with
          | [], he, _ => simp [mtE] at he
          | [⟨_, _, _, _⟩], he, _ => simp [mtE] at he
          | _ :: _ :: _ :: _, he, _ => simp [mtE] at he
          | [⟨t, i', cs, n⟩, ⟨t1, i1', cs1, n1⟩], he, hsw =>
            simp only [mtE, Bool.and_eq_true, decide_eq_true_eq] at he
            obtain ⟨⟨⟨⟨⟨⟨⟨⟨⟨⟨⟨⟨⟨rfl, rfl⟩, h1⟩, h2⟩, h3⟩, h4⟩, h5⟩, h6⟩, h7⟩, h8⟩, h9⟩, h10⟩, h11⟩, h12⟩ := he
            have h1' : blkC X.N X.env.scope scope own = true := by rw [h.at_.N, h.at_.sc]; exact h1
            exact sns_setLc2 o h.at_.ok.calm h.at_.ok.nd s1 hy hsw (sndI g it i' t X S W h.at_ tk tg (blkS S scope) h4 h5) (blkOk_by h1') (own_of h2) (own_of h3) h12 h9
              (fun s H C cl fp => (h.at_.blk s H scope C cl fp).tgt h4)
              (fun s H C cl fp => sndC g ifs cs _ _ _ (h.at_.blk s H scope C cl fp) takes0 h6)
              (fun s H C cl fp => sndI g it1 i1' t1 _ (blkS S scope) _ (h.at_.blk s H scope C cl fp) takes0 tg1 (blkS S scope) h7 h8)
              (fun s H C cl fp => (h.at_.blk s H scope C cl fp).tgt h7)
              (fun s H C cl fp => sndC g ifs1 cs1 _ _ _ (h.at_.blk s H scope C cl fp) takes0 h10)
              (fun s H C cl fp => (sndE g elt xe _ _ _ (h.at_.blk s H scope C cl fp) takes0 h11).pe)
              (foldS (mtI_set h5)) (fun env => foldS (mtI_set h8))
        | _ => simp [mtE] at he
      · rename_i hl
        refine plain ?_
        have hk : X.env.kindOf x = some .cell := by unfold Env.kindOf; rw [h.at_.sc]; exact hl
        unfold swapsWith
        simp only [hk]
        have : (some NameKind.cell == some NameKind.local) = false := rfl
        rw [this]
        simp
      · cases ha
    | _ => exact absurd ha (by simp [asgB]; simpa using hc)
end
end DL

set_option Elab.async false
set_option linter.all false
set_option maxRecDepth 100000
set_option maxHeartbeats 16000000
namespace DL
open PySem PySem.Spec PyProof.Rows L2
theorem assign_sub {e : Expr} {x : Str} {po ps : Pos} {env : Env} (h : isSlice e = false) : ∀ v, assign (.Subscript (.Name x po) e ps) env v = (do
    let ov ← holding [v] (eval (.Name x po) env)
    let iv ← holding [v, ov] (eval e env)
    standAt ps
    holding [v, ov, iv] (setItem ov iv v)
    release [v, ov, iv] []) := by
  intro v
  cases e <;> first | rfl | (simp [isSlice] at h)
theorem raisOf_eq {ex cause : Option Expr} {x : Str} (h : raisOf ex cause = some x) : ∃ p m j p2 pp, ex = some (.Call (.Name x p) [.Constant (.str m) j p2] [] pp) ∧ cause = none := by
  unfold raisOf at h
  split at h
  · cases h
    exact ⟨_, _, _, _, _, rfl, rfl⟩
  · cases h
theorem tryOf_eq {hs : List ExceptHandler} {oe fb : List Stmt} {y : Str} {r : Expr} (h : tryOf hs oe fb = some (y, r)) : ∃ np p1 p2, hs = [.ExceptHandler (some (.Name y np)) none [.Return (some r) p1] p2] ∧ oe = [] ∧ fb = [] := by
  unfold tryOf at h
  split at h
  · cases h
    exact ⟨_, _, _, rfl, rfl, rfl⟩
  · cases h
set_option maxHeartbeats 64000000 in
mutual
theorem sndS {G : Glb} (g : GOk G) (eo : EOk G) : ∀ (s : DL.St) (st : Stmt) (X : Cx) (S : Sx) (W : WX), AtS G S X → Takes X W → mtS G.Γ S s st = true → PS X st (tS X.K G.Γ G.ec W s)
  | .set i e, st, X, S, W, a, tk, h => by
    cases st with
    | Assign ts v pos =>
      cases ts with
      | nil => simp [mtS] at h
      | cons t r =>
        cases r with
        | cons _ _ => cases t <;> simp [mtS] at h
        | nil =>
          cases t with
          | Name x py =>
            simp only [mtS, Bool.and_eq_true] at h
            exact snd_asg g a tk false h.1.1.1 h.1.1.2 h.1.2 (fun q => by cases q) h.2
          | _ => simp [mtS] at h
    | _ => simp [mtS] at h
  | .own i e, st, X, S, W, a, tk, h => by
    cases st with
    | Assign ts v pos =>
      cases ts with
      | nil => simp [mtS] at h
      | cons t r =>
        cases r with
        | cons _ _ => cases t <;> simp [mtS] at h
        | nil =>
          cases t with
          | Name x py =>
            simp only [mtS, Bool.and_eq_true] at h
            exact snd_asg g a tk true h.1.1.1.1 h.1.1.1.2 h.1.2 (fun _ => h.1.1.2) h.2
          | _ => simp [mtS] at h
    | _ => simp [mtS] at h
  | .unp ts e, st, X, S, W, a, tk, h => by
    cases st with
    | Assign tt v pos =>
      cases tt with
      | nil => simp [mtS] at h
      | cons t r =>
        cases r with
        | cons _ _ => cases t <;> simp [mtS] at h
        | nil =>
          cases t with
          | Tuple es kk tp =>
            simp only [mtS, Bool.and_eq_true, Bool.or_eq_true] at h
            obtain ⟨⟨⟨⟨h1, h2⟩, h3⟩, h4⟩, h5⟩ := h
            have hc : isCmp v = false := by simpa using h4
            rcases h5 with h5 | h5
            · obtain ⟨i, j, x, y, px, py, ea', eb', ea, eb, k2, p2, rfl, rfl, rfl, rfl, hij, hx, hy, sa, sb, hw⟩ := ss_swap (k := kk) (p := tp) (env := X.env) a.at_.sc a.kind h5
              simp only [mtTs, mtT, Bool.and_eq_true, decide_eq_true_eq] at h1
              simp only [mtE, mtX, Bool.and_eq_true] at h2
              simp only [nbX, Bool.and_eq_true] at h2
              refine sns_par a.at_.ok.calm a.at_.ok.nd (by rw [a.at_.N]; exact h1.1.1) (by rw [a.at_.N]; exact h1.2.1.1) hij (by rw [a.at_.sc]; exact hx) (by rw [a.at_.sc]; exact hy)
                (sndE g _ _ X S W a.at_ tk h2.1.1.1.1).pe (sndE g _ _ X S W a.at_ tk h2.1.1.1.2.1).pe h2.1.1.2.1 h2.1.1.2.2.1 sa sb hw
            · exact sns_unp (a.at_.tgt (t := .t ts) (by simpa only [mtT] using h1)) (sndE g e v X S W a.at_ tk h2).pe h3 (sw_sole hc) (ss_noswap a.at_.sc a.kind h5)
          | _ => simp [mtS] at h
    | _ => simp [mtS] at h
  | .frz i, st, X, S, W, a, tk, h => by cases st <;> simp [mtS] at h
  | .aug i op e, st, X, S, W, a, tk, h => by
    cases st with
    | AugAssign t op' v pos =>
      cases t with
      | Name x py =>
        simp only [mtS, Bool.and_eq_true, decide_eq_true_eq] at h
        obtain ⟨⟨⟨h1, rfl⟩, h3⟩, h4⟩ := h
        obtain ⟨s1, s2, s3, s4, s5, s6⟩ := a.slot h1
        exact sns_aug a.at_.ok.nd s1 s2 s3 (sndE g e v X S W a.at_ tk h3).pe
      | _ => simp [mtS] at h
    | _ => simp [mtS] at h
  | .put i ix e, st, X, S, W, a, tk, h => by
    cases st with
    | Assign tt v pos =>
      cases tt with
      | nil => simp [mtS] at h
      | cons t r =>
        cases r with
        | cons _ _ => cases t <;> simp [mtS] at h
        | nil =>
          cases t with
          | Subscript o eix ps =>
            simp only [mtS, Bool.and_eq_true] at h
            obtain ⟨⟨⟨⟨h1, h2⟩, h3⟩, h4⟩, h5⟩ := h
            obtain ⟨x, po, rfl⟩ := slotB_name h1
            obtain ⟨s1, s2, s3, s4, s5, s6⟩ := a.slot h1
            have hc : isCmp v = false := by simpa using h5
            exact sns_put (sndE g e v X S W a.at_ tk h3).pe h4 (sw_sole hc) ss_sub (pg_sub (pe_var s1 s4 s5 s6) (sndE g ix eix X S W a.at_ tk h2).pe set_list (assign_sub (mtE_slice h2)))
          | _ => simp [mtS] at h
    | _ => simp [mtS] at h
  | .augp i ix op e, st, X, S, W, a, tk, h => by
    cases st with
    | AugAssign t op' v pos =>
      cases t with
      | Subscript o eix ps =>
        simp only [mtS, Bool.and_eq_true, decide_eq_true_eq] at h
        obtain ⟨⟨⟨⟨⟨h1, h2⟩, rfl⟩, h3⟩, h4⟩, h5⟩ := h
        obtain ⟨x, po, rfl⟩ := slotB_name h1
        obtain ⟨s1, s2, s3, s4, s5, s6⟩ := a.slot h1
        exact sns_augp s1 s4 s5 s6 (sndE g ix eix X S W a.at_ tk h2).pe (sndE g e v X S W a.at_ tk h3).pe (aug_ok (mtE_slice h2))
      | _ => simp [mtS] at h
    | _ => simp [mtS] at h
  | .app i e, st, X, S, W, a, tk, h => by
    cases st with
    | Expr c pos =>
      cases c with
      | Call f as kw cp =>
        cases f with
        | Attribute o m ap =>
          match as, kw, h with
          | [v], [], h =>
            simp only [mtS, Bool.and_eq_true, decide_eq_true_eq] at h
            obtain ⟨⟨⟨⟨rfl, h2⟩, h3⟩, h4⟩, h5⟩ := h
            obtain ⟨x, po, rfl⟩ := slotB_name h2
            obtain ⟨s1, s2, s3, s4, s5, s6⟩ := a.slot h2
            exact sns_app s1 s4 s5 s6 (sndE g e v X S W a.at_ tk h3).pe h4 (mtE_star h3) h5
          | [], _, h => simp [mtS] at h
          | [_], _ :: _, h => simp [mtS] at h
          | _ :: _ :: _, _, h => simp [mtS] at h
        | _ => simp [mtS] at h
      | _ => simp [mtS] at h
    | _ => simp [mtS] at h
  | .ext i e, st, X, S, W, a, tk, h => by
    cases st with
    | Expr c pos =>
      cases c with
      | Call f as kw cp =>
        cases f with
        | Attribute o m ap =>
          match as, kw, h with
          | [v], [], h =>
            simp only [mtS, Bool.and_eq_true, decide_eq_true_eq] at h
            obtain ⟨⟨⟨⟨rfl, h2⟩, h3⟩, h4⟩, h5⟩ := h
            obtain ⟨x, po, rfl⟩ := slotB_name h2
            obtain ⟨s1, s2, s3, s4, s5, s6⟩ := a.slot h2
            exact sns_ext s1 s4 s5 s6 (sndE g e v X S W a.at_ tk h3).pe h4 (mtE_star h3) h5
          | [], _, h => simp [mtS] at h
          | [_], _ :: _, h => simp [mtS] at h
          | _ :: _ :: _, _, h => simp [mtS] at h
        | _ => simp [mtS] at h
      | _ => simp [mtS] at h
    | _ => simp [mtS] at h
  | .expr e, st, X, S, W, a, tk, h => by
    cases st with
    | Expr v pos =>
      simp only [mtS, Bool.and_eq_true] at h
      exact sns_expr (sndE g e v X S W a.at_ tk h.1).pe (sw_no (by simpa using h.2))
    | _ => simp [mtS] at h
  | .ret e, st, X, S, W, a, tk, h => by
    cases st with
    | Return v pos =>
      cases v with
      | some v => exact sns_ret (sndE g e v X S W a.at_ tk (by simpa only [mtS] using h)).pe
      | none => simp [mtS] at h
    | _ => simp [mtS] at h
  | .ife t x y, st, X, S, W, a, tk, h => by
    cases st with
    | If c sx sy pos =>
      simp only [mtS, Bool.and_eq_true] at h
      exact sns_ife ((sndE g t c X S W a.at_ tk h.1.1.1).pt h.1.1.2) (sndSs g eo x sx X S W a tk h.1.2) (sndSs g eo y sy X S W a tk h.2)
    | _ => simp [mtS] at h
  | .loop tg it body, st, X, S, W, a, tk, h => by
    cases st with
    | For t i sb oe pos =>
      cases oe with
      | cons _ _ => simp [mtS] at h
      | nil =>
        simp only [mtS, Bool.and_eq_true] at h
        exact sns_loop a.psn a.at_.ok.calm (sndI g it i t X S W a.at_ tk tg S h.1.1.1 h.1.1.2) (a.at_.tgt h.1.1.1) (sndSs g eo body sb X S W a tk h.2) h.1.2 (foldS (mtI_set h.1.1.2))
    | _ => simp [mtS] at h
  | .whl t body, st, X, S, W, a, tk, h => by
    cases st with
    | While c sb oe pos =>
      cases oe with
      | cons _ _ => simp [mtS] at h
      | nil =>
        simp only [mtS, Bool.and_eq_true] at h
        exact sns_whl a.psn ((sndE g t c X S W a.at_ tk h.1.1).pt h.1.2) (sndSs g eo body sb X S W a tk h.2)
    | _ => simp [mtS] at h
  | .rais n, st, X, S, W, a, tk, h => by
    cases st with
    | Raise ex cause pos =>
      simp only [mtS] at h
      split at h
      · rename_i x hq
        obtain ⟨p, m, j, p2, pp, rfl, rfl⟩ := raisOf_eq hq
        simp only [Bool.and_eq_true, decide_eq_true_eq] at h
        obtain ⟨⟨rfl, h2⟩, h3⟩ := h
        obtain ⟨hg, hdb⟩ := a.at_.gl h2
        obtain ⟨C, E⟩ := eo.ex x (any_of h3)
        have hK := a.at_.ok.K
        exact sns_rais a.at_.ok.calm tk (by rw [a.at_.ok.mg]; exact E.mg) E.ec (by rw [hK]; exact E.ex) (by rw [hK]; exact E.kp) (raises_own (by rw [hK]; exact E.sub) (by rw [hK]; exact E.ty)) hg hdb
      · cases h
    | _ => simp [mtS] at h
  | .try1 body n c, st, X, S, W, a, tk, h => by
    cases st with
    | Try sb hs oe fb pos =>
      simp only [mtS] at h
      split at h
      · rename_i y r hq
        simp only [Bool.and_eq_true, decide_eq_true_eq] at h
        obtain ⟨⟨⟨⟨⟨rfl, h2⟩, h3⟩, h4⟩, h5⟩, h6⟩ := h
        obtain ⟨np, p1, p2, rfl, rfl, rfl⟩ := tryOf_eq hq
        obtain ⟨hg, hdb⟩ := a.at_.gl h2
        obtain ⟨C, E⟩ := eo.ex y (any_of h3)
        obtain ⟨d, hd⟩ := Option.isSome_iff_exists.mp h6
        exact sns_try a.stk a.frm tk (by rw [a.at_.ok.mg]; exact E.mg) E.ec hg hdb (fun z hz => by rw [a.at_.ok.K]; exact eo.one z hz y (any_of h3))
          (fun W2 pn xe tk2 ps2 => sndSs g eo body sb (X.tr pn xe) S W2 (a.tr pn xe ps2) tk2 h4) hd h5
      · cases h
    | _ => simp [mtS] at h
  | .brk, st, X, S, W, a, tk, h => by
    cases st with
    | Break p => exact sns_brk
    | _ => simp [mtS] at h
  | .cnt, st, X, S, W, a, tk, h => by
    cases st with
    | Continue p => exact sns_cnt
    | _ => simp [mtS] at h
  | .pss, st, X, S, W, a, tk, h => by
    cases st with
    | Pass p => exact sns_pss
    | _ => simp [mtS] at h
  | .retn, st, X, S, W, a, tk, h => by
    cases st with
    | Return v p =>
      cases v with
      | none => exact sns_retn
      | some v => simp [mtS] at h
    | _ => simp [mtS] at h
  | .dead, st, X, S, W, a, tk, h => sns_dead
theorem sndSs {G : Glb} (g : GOk G) (eo : EOk G) : ∀ (ss : Sts) (sts : List Stmt) (X : Cx) (S : Sx) (W : WX), AtS G S X → Takes X W → mtSs G.Γ S ss sts = true → PSs X sts (tSs X.K G.Γ G.ec W ss)
  | .nil, sts, X, S, W, a, tk, h => by
    cases sts with
    | nil => exact sns_nil
    | cons _ _ => simp [mtSs] at h
  | .cons s ss, sts, X, S, W, a, tk, h => by
    simp only [mtSs] at h
    by_cases hf : isFrz s = true
    · rw [if_pos hf] at h
      obtain ⟨i, rfl⟩ := isFrz_of hf
      exact sns_frz (sndSs g eo ss sts X S W a tk h)
    · rw [if_neg hf] at h
      cases sts with
      | nil => cases h
      | cons st r =>
        simp only [Bool.and_eq_true] at h
        exact sns_cons (sndS g eo s st X S W a tk h.1) (sndSs g eo ss r X S W a tk h.2)
end
end DL

set_option Elab.async false
set_option linter.all false
set_option maxRecDepth 100000
set_option maxHeartbeats 4000000
namespace DL
open PySem PySem.Spec PyProof.Rows L2

/-! ### a def of the grammar -/
structure DF where
  nm : Str
  N : List Str
  ps : List Str
  body : Sts
abbrev Phi := List Sl → (D → Prop) → (Str → Prop) → Prop
def kt0 (P : D → Prop) (PE : Str → Prop) : Kt where
  nx := fun _ => P .none
  rt := P
  bk := fun _ => False
  ct := fun _ => False
  er := fun x _ => PE x
def ent (n : Nat) (as : List Sl) : Rho := as.map some ++ List.replicate (n - as.length) none
/-- the def's own meaning -/
def spW (Γ : Gam) (d : DF) : Phi := fun as P PE => as.length = d.ps.length ∧ wpSs Γ d.body (ent d.N.length as) (kt0 P PE)
def scK (N P : List Str) (sc : Scope) : Bool := (match sc.kind with
  | .function => true
  | _ => false) && (!sc.isCoroutine && (!sc.isGenerator && (decide N.Nodup && (decide (N.take P.length = P) && ((P.all fun x => visB sc x) && sc.names.all fun y => match y.2 with
    | .free => false
    | _ => true)))))
theorem scK_ok {N P : List Str} {sc : Scope} (h : scK N P sc = true) : FnScope N P sc := by
  unfold scK at h
  simp only [Bool.and_eq_true] at h
  obtain ⟨h1, h2, h3, h4, h5, h6, h7⟩ := h
  have nf : ∀ y ∈ sc.names, y.2 ≠ .free := fun y hy e => by
    have q := List.all_eq_true.mp h7 y hy
    rw [e] at q; cases q
  refine ⟨?_, by simpa using h2, by simpa using h3, of_decide_eq_true h4, of_decide_eq_true h5, fun x hx => ?_, nf⟩
  · split at h1
    · assumption
    · cases h1
  · have q := List.all_eq_true.mp h6 x hx
    unfold visB at q
    split at q
    · rename_i e; exact .inl e
    · rename_i e; exact .inr e
    · rename_i e
      exact absurd rfl (nf (x, .free) (PySem.mem_of_lookup e))
    · cases q
def sxOf (d : DF) (st : Stmt) : Sx := ⟨d.N, defScope st, fun _ => true⟩
def chkD (Γ : Gam) (d : DF) (st : Stmt) : Bool := scK d.N d.ps (defScope st) && mtSs Γ (sxOf d st) d.body (defBody st) && !inFs Γ d.nm
def Gam.add (Γ : Gam) (nm : Str) (φ : Phi) : Gam := { Γ with Φ := fun f => if f = nm then φ else Γ.Φ f, fs := nm :: Γ.fs }
def Glb.add (G : Glb) (nm : Str) (φ : Phi) : Glb := { G with k := G.k + 1, Γ := G.Γ.add nm φ }
abbrev FunS (K : PySem.W.Frag) (x : Str) (st : Stmt) (f : Addr) (fd : FuncData) : Prop := FunD K x x (defArgs st) (defBody st) (defScope st) [] [] f fd
theorem paired_len {α β : Type} {R : α → β → Prop} {as : List α} {bs : List β} (h : Paired R as bs) : as.length = bs.length := by
  induction h with
  | nil => rfl
  | cons _ _ ih => simp [ih]
theorem paired_get {α β : Type} {R : α → β → Prop} {as : List α} {bs : List β} (h : Paired R as bs) : ∀ (i : Nat) (b : β), bs[i]? = some b → ∃ a, as[i]? = some a ∧ R a b := by
  induction h with
  | nil => intro i b q; simp at q
  | cons h1 _ ih =>
    intro i b q
    cases i with
    | zero => simp at q; exact ⟨_, rfl, q ▸ h1⟩
    | succ j => simp at q; simpa using ih j b q
theorem ent_get {n i : Nat} {as : List Sl} {s : Sl} (h : (ent n as)[i]? = some (some s)) : as[i]? = some s := by
  unfold ent at h
  rw [List.getElem?_append] at h
  split at h
  · rw [List.getElem?_map] at h
    cases q : as[i]? with
    | none => rw [q] at h; cases h
    | some t => rw [q] at h; cases h; rfl
  · rw [List.getElem?_replicate] at h
    split at h <;> cases h
theorem start_get {n : List Str} {i : Nat} {vs : List V} {v : V} (h : vs[i]? = some v) : (L2.start n vs)[i]? = some (some v) := by
  unfold L2.start
  rw [List.getElem?_append_left (by
    rw [List.length_map]
    exact (List.getElem?_eq_some_iff.mp h).1), List.getElem?_map, h]
  rfl
theorem entry {K : PySem.W.Frag} {O : Addr → Prop} {dA : Option Addr} {dC : Addr} {H : Hp} {N : List Str} {vs : List V} {as : List Sl} (dm : Dom O H) (hd : ∀ a, dA = some a → O a ∧ DrawOk K O H a dC) (hp : Paired (SlotR K ⟨O, dA, dC, H⟩ O H) vs as) :
    EnvR K ⟨O, dA, dC, H⟩ O H (L2.start N vs) (ent N.length as) where
  len := by
    unfold L2.start ent
    simp [paired_len hp]
  slot := fun i s h => by
    obtain ⟨v, h1, h2⟩ := paired_get hp i s (ent_get h)
    exact ⟨v, start_get h1, h2⟩
  sep := fun i j d e a q1 q2 q3 q4 => by
    obtain ⟨v, _, b, _, h1, h2, _⟩ := paired_get hp i _ (ent_get q1)
    exact absurd h1 h2
  sub := fun _ h => h
  dom := dm
  unp := fun a h n => absurd h n
  keep := fun _ _ _ h => h
  drw := hd
theorem EnvR.stp0 {K : PySem.W.Frag} {F : Fm} {O : Addr → Prop} {H : Hp} {σ : L2.St} {ρ : Rho} (e : EnvR K F O H σ ρ) : Stp K F F.O0 F.H0 H := ⟨e.keep, fun a h => by
  obtain ⟨h1, cells, i, cur, seed, g1, g2, g3, g4⟩ := e.drw a h
  exact ⟨cells, i, cur, seed, g1, g2, fun q => g3 (e.sub _ q), g4⟩⟩
section
variable {G : Glb}
/-- a def of the grammar keeps its meaning -/
theorem def_ok (g : GOk G) (eo : EOk G) {d : DF} {st : Stmt} {f : Addr} {fd : FuncData} (F : FunS G.K d.nm st f fd) (c : chkD G.Γ d st = true) :
    FnOk G.P G.w G.K G.mg G.base (L2.CX G.P G.w) (G.k + 1) f fd d.ps (spF G.K G.ec (spW G.Γ d)) := by
  unfold chkD at c
  rw [Bool.and_eq_true, Bool.and_eq_true] at c
  obtain ⟨⟨c1, c2⟩, _⟩ := c
  have S : FnScope d.N d.ps (defScope st) := scK_ok c1
  refine F.ok S (fun vs H Q E h => ?_) (fun cdv A outer s H vs Q E hr h => ?_)
  · obtain ⟨O, dA, dC, as, P, PE, _, _, hp, ⟨hl, _⟩, _⟩ := h
    rw [paired_len hp, hl]
  · obtain ⟨O, dA, dC, as, P, PE, dm, hd, hp, ⟨hl, w⟩, hq, he⟩ := h
    have tk : Takes (cxOf (L2.CX G.P G.w) G.P G.w G.K G.mg G.base d.N d.nm (defScope st) f cdv A outer s H E) (fun cls dd _ H' => E cls dd H') := takes_of rfl rfl rfl rfl
    refine ⟨_, sndSs g eo d.body (defBody st) _ (sxOf d st) _ ⟨⟨⟨rfl, rfl, rfl, rfl, rfl, rfl, hr, S.nd⟩, rfl, rfl, rfl⟩, rfl, rfl, S.kind, passes_of rfl⟩ tk c2, ?_⟩
    refine ⟨⟨O, dA, dC, H⟩, O, ent d.N.length as, kt0 P PE, entry dm hd hp, w, ?_⟩
    exact {
      nx := fun ρ' h O' σ' H' en => hq _ h _ _ en.stp0 .non
      rt := fun x h O' σ' H' ρ' v en hv => hq _ h _ _ en.stp0 hv
      bk := fun ρ' h => h.elim
      ct := fun ρ' h => h.elim
      er := fun x ρ' h O' σ' H' en => he x h H' en.stp0 }
theorem spF_imp {K : PySem.W.Frag} {ec : Str → Value} {φ ψ : Phi} (h : ∀ as P PE, φ as P PE → ψ as P PE) : ∀ vs H Q E, spF K ec φ vs H Q E → spF K ec ψ vs H Q E := fun vs H Q E q => by
  obtain ⟨O, dA, dC, as, P, PE, a1, a2, a3, a4, a5⟩ := q
  exact ⟨O, dA, dC, as, P, PE, a1, a2, a3, h _ _ _ a4, a5⟩
theorem inFs_mem {Γ : Gam} {f : Str} (h : f ∈ Γ.fs) : inFs Γ f = true := List.any_eq_true.mpr ⟨f, h, decide_eq_true rfl⟩
/-- the table grows by a def (of any kind) -/
theorem GOk.grow (g : GOk G) {nm : Str} {φ : Phi} {f : Addr} {fd : FuncData} {ps : List Str} (hn : inFs G.Γ nm = false) (hmg : G.mg nm = some (.ref f)) (kp : PySem.W.keepIn G.K (.ref f) = true) (b : Binds G.K fd ps [])
    (ok : FnOk G.P G.w G.K G.mg G.base (L2.CX G.P G.w) (G.k + 1) f fd ps (spF G.K G.ec φ)) : GOk (G.add nm φ) where
  fn := fun x hx => by
    show FnIn (G.add nm φ) x (if x = nm then φ else G.Γ.Φ x)
    by_cases e : x = nm
    · rw [if_pos e, e]
      exact ⟨f, fd, ps, hmg, kp, b, ok⟩
    · rw [if_neg e]
      have hx2 : x ∈ G.Γ.fs := by
        rcases List.mem_cons.mp (show x ∈ nm :: G.Γ.fs from hx) with h | h
        · exact absurd h e
        · exact h
      obtain ⟨a, fd', ps', m, k, bb, o⟩ := (g.fn x hx2).ex
      exact ⟨a, fd', ps', m, k, bb, o.mono (Nat.le_succ _)⟩
  bi := g.bi
  gcd := g.gcd
  rng := g.rng
  enm := g.enm
  zip := g.zip
  isi := g.isi
  bool := g.bool
  set := g.set
  gl := g.gl
theorem EOk.grow (e : EOk G) {nm : Str} {φ : Phi} : EOk (G.add nm φ) := ⟨fun x h => by
  obtain ⟨C, c⟩ := e.ex x h
  exact ⟨C, c.mg, c.ec, c.ex, c.kp, c.sub, c.ty⟩, e.one⟩
/-- .. by a def of the grammar, under a promise -/
theorem GOk.add (g : GOk G) (eo : EOk G) {d : DF} {st : Stmt} {f : Addr} {fd : FuncData} (φ : Phi) (F : FunS G.K d.nm st f fd) (hmg : G.mg d.nm = some (.ref f)) (c : chkD G.Γ d st = true)
    (b : ∀ (kV doc pm : Value) (an : Option Addr) (cdv ct : Value) (us : List Value), us.length = d.ps.length → bindArgs (PySem.W.fnOf d.nm d.nm (defArgs st) (defBody st) (defScope st) .none kV doc pm an cdv ct) ⟨us, []⟩ = pure (d.ps.zip us))
    (h : ∀ as P PE, φ as P PE → spW G.Γ d as P PE) : GOk (G.add d.nm φ) := by
  have c3 : inFs G.Γ d.nm = false := by
    unfold chkD at c
    rw [Bool.and_eq_true] at c
    simpa using c.2
  exact g.grow c3 hmg F.kp (F.bindsN b) ((def_ok g eo F c).imp (spF_imp h))
end
/-- what a draw promises: any number in the range -/
def φTake : Phi := fun as P _ => ∃ m : Int, as = [.dr, .fz (.int m)] ∧ 0 < m ∧ m < 2 ^ 30 ∧ ∀ k : Int, 0 ≤ k → k < m → P (.int k)
end DL

set_option Elab.async false
set_option linter.all false
set_option maxRecDepth 100000
set_option maxHeartbeats 4000000
namespace DL
open PySem PySem.Spec PyProof.Rows L2
/-! the given program's rows, by their places -/
abbrev rProg : Program := PySem.Challenge.pw_guessbound_k48_drawn_functions
def topS (i : Nat) : Stmt := rProg.main.body.getD i (.Pass ⟨0, 0, 0, 0⟩)
abbrev sTake : Stmt := topS 35
abbrev sDraw : Stmt := topS 34
end DL

set_option Elab.async false
set_option linter.all false
set_option maxRecDepth 100000
set_option maxHeartbeats 4000000
namespace DL
open PySem PySem.Spec PyProof.Rows L2
/-! ### the draw's two defs, by hand -/
theorem scTake : FnScope ["draw", "many", "found"] ["draw", "many"] (defScope sTake) := ⟨rfl, rfl, rfl, by decide +kernel, rfl, by decide +kernel, by decide +kernel⟩
theorem scDraw : FnScope ["script", "seed", "cell"] ["script"] (defScope sDraw) := ⟨rfl, rfl, rfl, by decide +kernel, rfl, by decide +kernel, by decide +kernel⟩
def ifBody : Stmt → List Stmt
  | .If _ b _ _ => b
  | _ => []
section
variable {P : Program} {w : World} {K : PySem.W.Frag} {mg : Str → Option Value} {base : Heap} {CX : CXT}
theorem mk1 {z : Int} (h : 0 < z ∧ z < 2 ^ 30) : dDivOk z := by
  refine ⟨by omega, ?_⟩
  have : z.natAbs < 2 ^ 30 := by omega
  exact Nat.lt_trans ((Nat.log2_lt (k := 30) (by omega)).mpr this) (by decide)
theorem mulOk31 {x : Int} (h0 : 0 ≤ x) (h : x < 2147483647) : x.natAbs.log2 + (48271 : Int).natAbs.log2 < 1000000 := by
  have h1 : (48271 : Int).natAbs.log2 < 16 := by decide
  have h2 : x.natAbs.log2 < 31 ∨ x.natAbs = 0 := by
    by_cases e : x.natAbs = 0
    · exact .inr e
    · exact .inl ((Nat.log2_lt e).mpr (by omega))
  rcases h2 with h2 | h2
  · omega
  · rw [h2]
    have : Nat.log2 0 = 0 := by decide
    omega
theorem sq4 {H : Hp} {a : Addr} {xs : List V} (h : H a = some (.lst xs)) : SqL K H a xs := .inl (.inl h)
theorem ok_take {ec : Str → Value} {f : Addr} {fd : FuncData} {k : Nat} (F : FunS K "_law_take" sTake f fd) (ml : mg "len" = none) (mi : mg "int" = none) : FnOk P w K mg base CX (k + 1) f fd ["draw", "many"] (spF K ec φTake) := by
  refine F.ok scTake (fun vs H Q E h => ?_) (fun cdv A outer s H vs Q E hr h => ?_)
  · obtain ⟨O, dA, dC, as, P, PE, _, _, hp, ⟨m, rfl, _⟩, _⟩ := h
    exact (paired_len hp : vs.length = 2)
  · obtain ⟨O, dA, dC, as, Pd, PE, dm, hd, hp, ⟨m, rfl, m0, m1, hP⟩, hq, he⟩ := h
    cases hp with | cons hp1 hp2 => cases hp2 with | cons hp2 hp3 =>
    cases hp3
    obtain ⟨a, ha, rfl⟩ := hp1
    cases hp2
    have ha : dA = some a := ha
    subst ha
    obtain ⟨ao, cells, i, cur, seed, e1, e2, nO, nca, cp, cl, i0, c0, s0, s1⟩ := hd a rfl
    -- the state of the draw
    let J : Hp → Prop := fun H1 => (∀ b, b ≠ a → H1 b = H b) ∧ ∃ i cur seed : Int, H1 a = some (.lst [.ref dC, .int i, .int cur, .int seed]) ∧ -1 ≤ i ∧ 0 ≤ cur ∧ 0 ≤ seed ∧ seed < 2147483647
    have stJ : ∀ H1, J H1 → Stp K ⟨O, some a, dC, H⟩ O H H1 := fun H1 j => ⟨fun b o n h => by rw [j.1 b (fun e => n (by rw [e]))]; exact h, fun b hb => by
      cases hb
      obtain ⟨i', c', s', g1, g2⟩ := j.2
      exact ⟨cells, i', c', s', g1, by rw [j.1 _ nca]; exact e2, nO, nca, cp, cl, g2⟩⟩
    have putJ : ∀ H1 (o : HO), (∀ b, b ≠ a → H1 b = H b) → ∀ b, b ≠ a → upd H1 a o b = H b := fun H1 o h b n => by rw [upd_ne n]; exact h b n
    have tail : ∃ t, PSs (cxOf CX P w K mg base ["draw", "many", "found"] "_law_take" (defScope sTake) f cdv A outer s H E) ((defBody sTake).drop 1) t ∧
        ∀ H1 x, J H1 → t { nx := fun _ H' => Q .non H', rt := Q } [some (.ref a), some (.int m), x] H1 := by
      refine ⟨_, pss_cons (ps_set (i := 2) scTake.nd rfl (.inl rfl) (pe_op op_mod (pe_callTy call_int1 (by rfl) mi (by decide +kernel) (pa_cons (pe_ix ix_list (pv 0) pe_int (fun _ _ => rfl)) pa_nil)) (pv 1)))
        (pss_cons (ps_asg (pe_op op_fdivA (pe_ix ix_list (pv 0) pe_int (fun _ _ => rfl)) (pv 1)) (pg_sub (pv 0) pe_int set_list))
        (pss_one (ps_ret (pv 2)))), ?_⟩
      intro H1 x j
      obtain ⟨j1, i', c', s', g1, g2, g3, g4, g5⟩ := j
      refine ⟨.ref a, rfl, a, _, 2, .int c', rfl, rfl, sq4 g1, rfl, .inl ⟨c', rfl, _, rfl, c', m, rfl, rfl, m0, ?_⟩⟩
      refine ⟨.ref a, rfl, a, _, 2, .int c', rfl, rfl, sq4 g1, rfl, .int m, rfl, c', m, rfl, rfl, mk1 ⟨m0, m1⟩, ?_⟩
      refine ⟨.ref a, rfl, a, _, 2, 2, rfl, rfl, g1, rfl, .int (c' % m), rfl, ?_⟩
      refine hq _ (hP (c' % m) (Int.emod_nonneg _ (by omega)) (Int.emod_lt_of_pos _ m0)) _ _ (stJ _ ⟨putJ _ _ j1, i', c'.fdiv m, s', upd_same, g2, ?_, g4, g5⟩) (.int _)
      exact Int.fdiv_nonneg g3 (by omega)
    obtain ⟨tl, htl, fin⟩ := tail
    have hu := hu_of hr
    have mid : ∃ t, PSs (cxOf CX P w K mg base ["draw", "many", "found"] "_law_take" (defScope sTake) f cdv A outer s H E) ((ifBody ((defBody sTake).headD (.Pass ⟨0, 0, 0, 0⟩))).drop 2) t ∧
        ∀ H1 x, J H1 → t { nx := tl { nx := fun _ H' => Q .non H', rt := Q }, rt := Q } [some (.ref a), some (.int m), x] H1 := by
      refine ⟨_, pss_one (ps_if (pt_cmpR op_eq (pe_ix ix_list (pv 0) pe_int (fun _ _ => rfl)) pe_int (nomark _))
          (pss_cons (ps_asg (pe_op op_mod (pe_callTy call_int1 (by rfl) mi (by decide +kernel) (pa_cons (pe_op op_add (pe_op op_mulW (pe_ix ix_list (pv 0) pe_int (fun _ _ => rfl)) pe_int) pe_int) pa_nil)) pe_int) (pg_sub (pv 0) pe_int set_list))
          (pss_one (ps_asg (pe_ix ix_list (pv 0) pe_int (fun _ _ => rfl)) (pg_sub (pv 0) pe_int set_list)))) pss_nil), ?_⟩
      intro H1 x j
      have jj := j
      obtain ⟨j1, i', c', s', g1, g2, g3, g4, g5⟩ := j
      refine ⟨.ref a, rfl, a, _, 2, .int c', rfl, rfl, sq4 g1, rfl, rfl, _, rfl, ite2 (fun _ => ?_) (fun _ => fin _ _ jj)⟩
      refine ⟨.ref a, rfl, a, _, 3, .int s', rfl, rfl, sq4 g1, rfl, s', 48271, rfl, rfl, mulOk31 g4 g5, _, 11, rfl, rfl, .inl ⟨_, rfl, _, 2147483647, rfl, rfl, show (0 : Int) < 2147483647 by decide, ?_⟩⟩
      refine ⟨.ref a, rfl, a, _, 3, 3, rfl, rfl, g1, rfl, ?_⟩
      have n0 : 0 ≤ (s' * 48271 + 11) % 2147483647 := Int.emod_nonneg _ (by decide)
      have n1 : (s' * 48271 + 11) % 2147483647 < 2147483647 := Int.emod_lt_of_pos _ (by decide)
      refine ⟨.ref a, rfl, a, _, 3, .int ((s' * 48271 + 11) % 2147483647), rfl, rfl, sq4 upd_same, rfl, .ref a, rfl, a, _, 2, 2, rfl, rfl, upd_same, rfl, ?_⟩
      exact fin _ _ ⟨putJ _ _ (putJ _ _ j1), i', _, _, upd_same, g2, n0, n0, n1⟩
    obtain ⟨tm, htm, fim⟩ := mid
    refine ⟨_, pss_cons (ps_if (pt_cmpR op_eq (pe_ix ix_list (pv 0) pe_int (fun _ _ => rfl)) pe_int (nomark _))
        (pss_cons (ps_asg (pe_op op_add (pe_ix ix_list (pv 0) pe_int (fun _ _ => rfl)) pe_int) (pg_sub (pv 0) pe_int set_list))
        (pss_cons (ps_if (pt_cmpR op_lt (pe_ix ix_list (pv 0) pe_int (fun _ _ => rfl)) (pe_callB call_len_seq (by rfl) ml PySem.boot_len (pa_cons (pe_ix ix_list (pv 0) pe_int (fun _ _ => rfl)) pa_nil)) (nomark _))
            (pss_one (ps_asg (pe_ix ix_list (pe_ix ix_list (pv 0) pe_int (fun _ _ => rfl)) (pe_ix ix_list (pv 0) pe_int (fun _ _ => rfl)) (fun _ _ => rfl)) (pg_sub (pv 0) pe_int set_list))) pss_nil)
        htm))
        pss_nil) htl, ?_⟩
    refine ⟨.ref a, rfl, a, _, 2, .int cur, rfl, rfl, sq4 e1, rfl, rfl, _, rfl, ite2 (fun _ => ?_) (fun _ => fin _ _ ⟨fun _ _ => rfl, i, cur, seed, e1, i0, c0, s0, s1⟩)⟩
    -- draw[1] = draw[1] + 1
    refine ⟨.ref a, rfl, a, _, 1, .int i, rfl, rfl, sq4 e1, rfl, i, 1, rfl, rfl, ?_⟩
    refine ⟨.ref a, rfl, a, _, 1, 1, rfl, rfl, e1, rfl, ?_⟩
    have u1 : (upd H a (.lst [.ref dC, .int (i + 1), .int cur, .int seed])) a = some (.lst [.ref dC, .int (i + 1), .int cur, .int seed]) := upd_same
    have f1 := putJ H (.lst [.ref dC, .int (i + 1), .int cur, .int seed]) fun _ _ => rfl
    have ec1 : (upd H a (.lst [.ref dC, .int (i + 1), .int cur, .int seed])) dC = some (.lst (cells.map V.int)) := by rw [f1 _ nca]; exact e2
    refine ⟨.ref a, rfl, a, _, 1, .int (i + 1), rfl, rfl, sq4 u1, rfl, .ref a, rfl, a, _, 0, .ref dC, rfl, rfl, sq4 u1, rfl, ?_⟩
    refine ⟨dC, _, rfl, .inl (sq4 ec1), _, _, rfl, rfl, _, rfl, ite2 (fun hlt => ?_) (fun _ => fim _ _ ⟨f1, i + 1, cur, seed, u1, by omega, c0, s0, s1⟩)⟩
    have hl : i + 1 < (cells.length : Int) := by
      have := of_decide_eq_true hlt
      rw [List.length_map] at this
      exact this
    obtain ⟨j, hj⟩ : ∃ j : Nat, i + 1 = (j : Int) := ⟨(i + 1).toNat, by omega⟩
    have hjl : j < cells.length := by omega
    have gj : (cells.map V.int)[j]? = some (.int cells[j]) := by rw [List.getElem?_map, List.getElem?_eq_getElem hjl]; rfl
    refine ⟨.ref a, rfl, a, _, 0, .ref dC, rfl, rfl, sq4 u1, rfl, .ref a, rfl, a, _, 1, .int (i + 1), rfl, rfl, sq4 u1, rfl, dC, _, i + 1, .int cells[j], rfl, rfl, sq4 ec1, by rw [hj]; exact atI_nat gj, ?_⟩
    refine ⟨.ref a, rfl, a, _, 2, 2, rfl, rfl, u1, rfl, ?_⟩
    exact fim _ _ ⟨putJ _ _ f1, i + 1, cells[j], seed, upd_same, by omega, cp _ (List.getElem_mem hjl), s0, s1⟩
/-- the numbers, made a draw -/
def spDraw (K : PySem.W.Frag) : Sp := fun vs H Q _ => ∃ (a : Addr) (ns : List Int), vs = [.ref a] ∧ SqL K H a (ns.map V.int) ∧ ns.length ≤ 63 ∧
  ∀ (H' : Hp) (p c : Addr) (cells : List Int) (seed : Int), Same H H' → H p = none → H c = none → c ≠ p → H' p = some (.lst [.ref c, .int (-1), .int 0, .int seed]) → H' c = some (.lst (cells.map V.int)) → (∀ x ∈ cells, 0 ≤ x) → cells.length ≤ 63 → 0 ≤ seed → seed < 2147483647 → Q (.ref p) H'
theorem ok_draw {f : Addr} {fd : FuncData} {k : Nat} (F : FunS K "_law_draw" sDraw f fd) (ma : mg "abs" = none) (mi : mg "int" = none) : FnOk P w K mg base CX (k + 1) f fd ["script"] (spDraw K) := by
  refine F.ok scDraw (fun vs H Q E h => ?_) (fun cdv A outer s H vs Q E hr h => ?_)
  · obtain ⟨a, ns, rfl, _⟩ := h
    rfl
  · obtain ⟨a, ns, rfl, hS, hl, q⟩ := h
    refine ⟨_, pss_cons (ps_set (i := 1) scDraw.nd rfl (.inl rfl) pe_int)
      (pss_cons (ps_for (passes_of (K := fun e s'' => CX outer H s E e s'') rfl) rfl (pi_list (pv 0)) (pg_name (i := 2) scDraw.nd rfl (.inl rfl))
        (pss_one (ps_set (i := 1) scDraw.nd rfl (.inl rfl) (pe_op op_mod (pe_callTy call_int1 (by rfl) mi (by decide +kernel) (pa_cons
          (pe_op op_add (pe_op op_add (pe_op op_mulW (pv 1) pe_int) (pe_op op_mod (pe_callB call_abs (by rfl) ma (by decide +kernel) (pa_cons (pe_callTy call_int1 (by rfl) mi (by decide +kernel) (pa_cons (pv 2) pa_nil)) pa_nil)) pe_int)) pe_int) pa_nil)) pe_int))))
      (pss_one (ps_ret (pe_lst (pa_cons (pe_lc (own := [("cell", 2)]) (g := gName 2) (tt := tYes) rfl scDraw.nd (pi_list (pv 0)) (blkOk_by (N := ["script", "seed", "cell"]) (sc := defScope sDraw) (by decide +kernel)) (fun _ _ _ _ _ => pg_name (i := 2) scDraw.nd rfl (Or.inl rfl)) (fun _ _ _ _ _ => pts_nil)
          (fun _ _ _ _ _ => pe_callB call_abs (by rfl) ma (by decide +kernel) (pa_cons (pe_callTy call_int1 (by rfl) mi (by decide +kernel) (pa_cons (pv 2) pa_nil)) pa_nil)))
        (pa_cons (pe_un un_neg pe_int) (pa_cons pe_int (pa_cons (pv 1) pa_nil)))))))), ?_⟩
    refine ⟨.ref a, rfl, a, rfl, ⟨_, hS⟩, for_list (xs := ns.map V.int) (fun _ σ H1 => H1 = H ∧ ∃ sd y, σ = [some (.ref a), some (.int sd), y] ∧ 0 ≤ sd ∧ sd < 2147483647) ⟨rfl, 7, none, rfl, by decide, by decide⟩ (fun i σ H1 _ h => by rw [h.1]; exact hS) (fun i x σ H1 hx h => ?_) (fun σ H1 h => ?_)⟩
    · obtain ⟨rfl, sd, y, rfl, d0, d1⟩ := h
      obtain ⟨n, rfl⟩ : ∃ n, x = .int n := by
        rw [List.getElem?_map] at hx
        cases e : ns[i]? with
        | none => rw [e] at hx; cases hx
        | some n => rw [e] at hx; cases hx; exact ⟨n, rfl⟩
      refine ⟨.int sd, rfl, sd, 48271, rfl, rfl, mulOk31 d0 d1, .int n, rfl, .inl ⟨n, rfl, n, rfl, _, 65521, rfl, rfl, show (0 : Int) < 65521 by decide, _, _, rfl, rfl, _, 1, rfl, rfl, .inl ⟨_, rfl, _, 2147483647, rfl, rfl, show (0 : Int) < 2147483647 by decide, ?_⟩⟩⟩
      exact ⟨rfl, _, _, rfl, Int.emod_nonneg _ (by decide), Int.emod_lt_of_pos _ (by decide)⟩
    · obtain ⟨rfl, sd, y, rfl, d0, d1⟩ := h
      refine ⟨.ref a, rfl, a, rfl, ⟨_, hS⟩, fun p hp => lc_list (xs := ns.map V.int) (fun i H2 => Same H1 H2 ∧ ∃ cells : List Int, H2 p = some (.lst (cells.map V.int)) ∧ (∀ x ∈ cells, 0 ≤ x) ∧ cells.length ≤ i) ⟨same_upd hp, [], upd_same, nofun, Nat.le_refl _⟩ (fun i H2 _ h => h.1.seq hS) (fun i x H2 hx h => ?_) (fun H2 h => ?_)⟩
      · obtain ⟨n, rfl⟩ : ∃ n, x = .int n := by
          rw [List.getElem?_map] at hx
          cases e : ns[i]? with
          | none => rw [e] at hx; cases hx
          | some n => rw [e] at hx; cases hx; exact ⟨n, rfl⟩
        obtain ⟨sm, cells, g1, g2, g3⟩ := h
        have hi : i < ns.length := by
          rw [List.getElem?_map] at hx
          cases e : ns[i]? with
          | none => rw [e] at hx; cases hx
          | some m => exact (List.getElem?_eq_some_iff.mp e).1
        refine ⟨rfl, ?_⟩
        refine ⟨.int n, rfl, .inl ⟨n, rfl, n, rfl, _, g1, ?_, fun b o e => ?_, cells ++ [if n < 0 then -n else n], ?_, fun x hx => ?_, by rw [List.length_append]; simp; exact g3⟩⟩
        · rw [List.length_map]
          exact small1000 (by omega)
        · rw [upd_ne (fun z => by rw [z, hp] at e; cases e)]
          exact sm b o e
        · rw [upd_same, List.map_append]; rfl
        · rcases List.mem_append.mp hx with h | h
          · exact g2 x h
          · rw [List.mem_singleton] at h
            rw [h]; split <;> omega
      · obtain ⟨sm, cells, g1, g2, g3⟩ := h
        rw [List.length_map] at g3
        refine ⟨1, rfl, .int sd, rfl, show (4 : Nat) ≤ sizeLine by decide, fun r hr2 => ?_⟩
        have nrp : p ≠ r := fun z => by rw [z, hr2] at g1; cases g1
        exact q _ r p cells sd (sm.trans (same_upd hr2)) (Same.free sm hr2) hp nrp upd_same (by rw [upd_ne nrp]; exact g1) g2 (by omega) d0 d1
end
end DL

set_option Elab.async false
set_option linter.all false
set_option maxRecDepth 100000
set_option maxHeartbeats 4000000
namespace DL
open PySem PySem.Spec PyProof.Rows L2
/-! ### the law's own def: its first statement by hand, the rest over data -/
def spLaw (K : PySem.W.Frag) : Sp := fun vs H Q _ => ∃ (a : Addr) (ns : List Int), vs = [.ref a] ∧ SqL K H a (ns.map V.int) ∧ ns.length ≤ 63 ∧ ∀ H', Q (.bl true) H'
def firstOf : List Stmt → Option (Str × Str × Str)
  | .Assign [.Name x _] (.Call (.Name f _) [.Name y _] [] _) _ :: _ => some (x, f, y)
  | _ => none
theorem firstOf_eq {sts : List Stmt} {x f y : Str} (h : firstOf sts = some (x, f, y)) : ∃ p1 p2 p3 p4 p5 rest, sts = .Assign [.Name x p1] (.Call (.Name f p2) [.Name y p3] [] p4) p5 :: rest := by
  unfold firstOf at h
  split at h
  · cases h
    exact ⟨_, _, _, _, _, _, rfl⟩
  · cases h
/-- names of the law: script, draw, .. -/
def chkL (Γ : Gam) (d : DF) (st : Stmt) : Bool := scK d.N ["script"] (defScope st) && mtSs Γ (sxOf d st) d.body (defBody st).tail && decide (firstOf (defBody st) = some (("draw" : Str), ("_law_draw" : Str), ("script" : Str))) && decide (d.N[0]? = some ("script" : Str)) && decide (d.N[1]? = some ("draw" : Str)) && visB (defScope st) "script" && visB (defScope st) "draw" && glB (defScope st) "_law_draw"
def entL (n : Nat) : Rho := none :: some .dr :: List.replicate (n - 2) none
section
variable {G : Glb}
theorem law_ok (g : GOk G) (eo : EOk G) {d : DF} {st : Stmt} {f fD : Addr} {fd fdD : FuncData} (F : FunS G.K "law" st f fd) (FD : FunS G.K "_law_draw" sDraw fD fdD) (hmD : G.mg "_law_draw" = some (.ref fD)) (c : chkL G.Γ d st = true)
    (hbD : Binds G.K fdD ["script"] []) (okD : FnOk G.P G.w G.K G.mg G.base (L2.CX G.P G.w) G.k fD fdD ["script"] (spDraw G.K))
    (pure_ : wpSs G.Γ d.body (entL d.N.length) (kt0 (fun r => r = .bool true) fun _ => False)) :
    FnOk G.P G.w G.K G.mg G.base (L2.CX G.P G.w) (G.k + 1) f fd ["script"] (spLaw G.K) := by
  unfold chkL at c
  simp only [Bool.and_eq_true] at c
  obtain ⟨⟨⟨⟨⟨⟨⟨c1, c2⟩, c3⟩, c4⟩, c5⟩, c6⟩, c7⟩, c8⟩ := c
  have S : FnScope d.N ["script"] (defScope st) := scK_ok c1
  obtain ⟨p1, p2, p3, p4, p5, rest, hst⟩ := firstOf_eq (of_decide_eq_true c3)
  refine F.ok S (fun vs H Q E h => ?_) (fun cdv A outer s H vs Q E hr h => ?_)
  · obtain ⟨a, ns, rfl, _⟩ := h
    rfl
  · obtain ⟨a, ns, rfl, hS, hl, q⟩ := h
    have tk : Takes (cxOf (L2.CX G.P G.w) G.P G.w G.K G.mg G.base d.N "law" (defScope st) f cdv A outer s H E) (fun cls dd _ H' => E cls dd H') := takes_of rfl rfl rfl rfl
    have aS : AtS G (sxOf d st) (cxOf (L2.CX G.P G.w) G.P G.w G.K G.mg G.base d.N "law" (defScope st) f cdv A outer s H E) := ⟨⟨⟨rfl, rfl, rfl, rfl, rfl, rfl, hr, S.nd⟩, rfl, rfl, rfl⟩, rfl, rfl, S.kind, passes_of rfl⟩
    have rst := sndSs g eo d.body (defBody st).tail _ (sxOf d st) _ aS tk c2
    rw [hst] at rst ⊢
    have gl := aS.at_.gl (x := "_law_draw") c8
    have vS := aS.at_.vis (x := "script") c6
    have vD := aS.at_.vis (x := "draw") c7
    have lD : Loc (cxOf (L2.CX G.P G.w) G.P G.w G.K G.mg G.base d.N "law" (defScope st) f cdv A outer s H E).env.scope "draw" := by
      rcases vD with h | h | h
      · exact .inl h
      · exact .inr h
      · exact absurd rfl (S.nofree ("draw", .free) (PySem.mem_of_lookup h))
    refine ⟨_, pss_cons (ps_set (i := 1) S.nd (of_decide_eq_true c5) lD (pe_call okD hr gl.1 hmD FD.kp hbD .nil (passes_call tk (fun _ _ _ _ h => h)) (pa_cons (pe_var (i := 0) (of_decide_eq_true c4) vS (by decide) (by decide)) pa_nil) gl.2) rfl (.inl rfl)) rst, ?_⟩
    have n2 : 1 < d.N.length := (List.getElem?_eq_some_iff.mp (of_decide_eq_true c5)).1
    refine ⟨.ref a, start_get (vs := [.ref a]) rfl, a, ns, rfl, hS, hl, fun H' p c cells seed sm np nc ncp hp hc hx hlen s0 s1 => ?_⟩
    have sget : ((L2.start d.N [.ref a]).set 1 (some (.ref p)))[1]? = some (some (.ref p)) := List.getElem?_set_self (by
      unfold L2.start
      simp
      omega)
    have only : ∀ (i : Nat) (s : Sl), (entL d.N.length)[i]? = some (some s) → i = 1 ∧ s = .dr := fun i s h => by
      unfold entL at h
      rcases i with _ | _ | i
      · simp at h
      · simp at h
        exact ⟨rfl, h.symm⟩
      · simp [List.getElem?_replicate] at h
    refine ⟨⟨fun b => b = p, some p, c, H'⟩, fun b => b = p, entL d.N.length, kt0 (fun r => r = .bool true) fun _ => False, ?_, pure_, ?_⟩
    · exact {
        len := by
          unfold L2.start entL
          simp
          omega
        slot := fun i s h => by
          obtain ⟨rfl, rfl⟩ := only i s h
          exact ⟨_, sget, p, rfl, rfl⟩
        sep := fun i j d' e b q1 q2 q3 q4 => by
          have h1 := (only i _ q1).1
          have h2 := (only j _ q2).1
          rw [h1, h2]
        sub := fun _ h => h
        dom := fun b h => by
          cases h
          exact ⟨_, hp⟩
        unp := fun b h n => absurd h n
        keep := fun _ _ _ h => h
        drw := fun b hb => by
          cases hb
          exact ⟨rfl, cells, -1, 0, seed, hp, hc, ncp, ncp, hx, hlen, by omega, by omega, s0, s1⟩ }
    · exact {
        nx := fun ρ' h O' σ' H2 en => by cases h
        rt := fun x h O' σ' H2 ρ' v en hv => by
          cases h
          cases hv
          exact q _
        bk := fun ρ' h => h.elim
        ct := fun ρ' h => h.elim
        er := fun x ρ' h => h.elim }
end
end DL

set_option Elab.async false
set_option linter.all false
set_option maxRecDepth 100000
set_option maxHeartbeats 4000000
namespace DL
open PySem PySem.Spec PyProof.Rows L2
/-! ### what the top has written, read by one hook -/
mutual
def datB (K : PySem.W.Frag) : D → Value → Bool
  | .none, .none => true
  | .bool b, .bool c => b == c
  | .int i, .int j _ => decide (i = j)
  | .str x, .str y _ => decide (x = y)
  | .tuple ds, .ref a => (match K.lookup a with
    | some ⟨.type c, _, .seq its _, _⟩ => decide (c = "tuple") && (decide (its.size ≤ sizeLine) && datsB K ds its.toList)
    | _ => false)
  | _, _ => false
def datsB (K : PySem.W.Frag) : List D → List Value → Bool
  | [], [] => true
  | d :: ds, u :: us => datB K d u && datsB K ds us
  | _, _ => false
end
mutual
theorem datB_ok {K : PySem.W.Frag} {O : Addr → Prop} {H : Hp} : ∀ (d : D) (u : Value), datB K d u = true → ∃ v, RelV v u ∧ Dr K O H v d
  | .none, u, h => by
    cases u with
    | none => exact ⟨.non, rfl, .non⟩
    | _ => simp [datB] at h
  | .bool b, u, h => by
    cases u with
    | bool c =>
      simp only [datB, beq_iff_eq] at h
      subst h
      exact ⟨.bl b, rfl, .bl b⟩
    | _ => simp [datB] at h
  | .int i, u, h => by
    cases u with
    | int j t =>
      simp only [datB, decide_eq_true_eq] at h
      subst h
      exact ⟨.int i, ⟨t, rfl⟩, .int i⟩
    | _ => simp [datB] at h
  | .str x, u, h => by
    cases u with
    | str y t =>
      simp only [datB, decide_eq_true_eq] at h
      subst h
      exact ⟨.str x, ⟨t, rfl⟩, .str x⟩
    | _ => simp [datB] at h
  | .tuple ds, u, h => by
    cases u with
    | ref a =>
      simp only [datB] at h
      split at h
      · rename_i c od its n sl q
        simp only [Bool.and_eq_true, decide_eq_true_eq] at h
        obtain ⟨rfl, h2, h3⟩ := h
        obtain ⟨vs, r, z⟩ := datsB_ok (O := O) (H := H) ds _ h3
        exact ⟨.ref a, rfl, .tup (.inr (.inr ⟨_, its, n, q, rfl, rfl, h2, r⟩)) z⟩
      · cases h
    | _ => simp [datB] at h
  | .list ds, u, h => by cases u <;> simp [datB] at h
  | .dict ds, u, h => by cases u <;> simp [datB] at h
theorem datsB_ok {K : PySem.W.Frag} {O : Addr → Prop} {H : Hp} : ∀ (ds : List D) (us : List Value), datsB K ds us = true → ∃ vs, Vals vs us ∧ DrA K O H vs ds
  | [], [], _ => ⟨[], .nil, .nil⟩
  | [], _ :: _, h => by simp [datsB] at h
  | _ :: _, [], h => by simp [datsB] at h
  | d :: ds, u :: us, h => by
    simp only [datsB, Bool.and_eq_true] at h
    obtain ⟨v, r, z⟩ := datB_ok (O := O) (H := H) d u h.1
    obtain ⟨vs, r2, z2⟩ := datsB_ok (O := O) (H := H) ds us h.2
    exact ⟨v :: vs, .cons r r2, .cons z z2⟩
end
inductive Xa where
  | dat (x : Str) (d : D)
  | blt (x : Str) (b : String)
def Xa.ok (K : PySem.W.Frag) : Xa → Bool
  | .dat x d => (match PySem.W.nsIn K mainGlobals x with
    | some (some u) => datB K d u
    | _ => false)
  | .blt x b => decide (PySem.W.nsIn K mainGlobals x = some (some (.builtin b)))
section
variable {K : PySem.W.Frag} {h : Heap} {mg : Str → Option Value}
theorem Xa.dat_ok (X : K.In h) (G : h.Ns mainGlobals mg) {x : Str} {d : D} (c : (Xa.dat x d).ok K = true) : ∃ u v, mg x = some u ∧ RelV v u ∧ Dr K (fun _ => False) (fun _ => none) v d := by
  unfold Xa.ok at c
  cases e : PySem.W.nsIn K mainGlobals x with
  | none => simp only [e] at c; cases c
  | some o =>
    cases o with
    | none => simp only [e] at c; cases c
    | some u =>
      simp only [e] at c
      obtain ⟨v, r, z⟩ := datB_ok (O := fun _ => False) (H := fun _ => none) d u c
      exact ⟨u, v, PySem.W.mg_of X G e, r, z⟩
theorem Xa.blt_ok (X : K.In h) (G : h.Ns mainGlobals mg) {x : Str} {b : String} (c : (Xa.blt x b).ok K = true) : mg x = some (.builtin b) := PySem.W.mg_of X G (of_decide_eq_true c)
end
abbrev AlX : Type := He.AlD × Bool
def obsX (fa : List He.Fa) (fn : List He.DefD) (xs : List Xa) (K : PySem.W.Frag) : AlX := (He.obsD fa fn K, xs.all fun x => x.ok K)
def obsXG (n : Nat) (fa : List He.Fa) (fn : List He.DefD) (xs : List Xa) (g : Addr → Option Obj) : AlX := obsX fa fn xs (He.frG g (He.asD g n))
structure SaysX (fa : List He.Fa) (fn : List He.DefD) (xs : List Xa) (K : PySem.W.Frag) : Prop where
  d : He.SaysD fa fn K
  x : (xs.all fun x => x.ok K) = true
def hookX (n : Nat) (fa : List He.Fa) (fn : List He.DefD) (xs : List Xa) : PySem.W.Hook where
  α := AlX
  obs := fun s => obsXG n fa fn xs s.heap.get?
  val := fun _ => (He.valD fn, true)
  says := fun _ h => ∃ K : PySem.W.Frag, K.In h ∧ SaysX fa fn xs K
  of := fun _ _ e => ⟨_, He.frG_in, ⟨congrArg (fun z : AlX => z.1) e, congrArg (fun z : AlX => z.2) e⟩⟩
  keeps := fun _ _ _ ⟨K, hK, c⟩ k => ⟨K, PySem.W.Frag.In.keeps hK k, c⟩
theorem obsXG_eq {n : Nat} {fa : List He.Fa} {fn : List He.DefD} {xs : List Xa} {g : Addr → Option Obj} {s : Shared} (h : ∀ a, g a = s.heap.get? a) : obsXG n fa fn xs g = (hookX n fa fn xs).obs s := by
  have e : g = s.heap.get? := funext h
  rw [e] <;> rfl
theorem SaysX.fact {fa : List He.Fa} {fn : List He.DefD} {xs : List Xa} {K : PySem.W.Frag} (c : SaysX fa fn xs K) {f : He.Fa} (h : f ∈ fa) : f.ok K = true := by
  have c1 := (He.ba (show ((fa.all fun f => f.ok K) && fn.all fun d => d.ok K) = true from congrArg (fun z : He.AlD => z.1) c.d)).1
  exact List.all_eq_true.mp c1 f h
theorem SaysX.xa {fa : List He.Fa} {fn : List He.DefD} {xs : List Xa} {K : PySem.W.Frag} (c : SaysX fa fn xs K) {f : Xa} (h : f ∈ xs) : f.ok K = true := List.all_eq_true.mp c.x f h
end DL

set_option Elab.async false
set_option linter.all false
set_option maxRecDepth 100000
set_option maxHeartbeats 4000000
namespace DL
open PySem PySem.Spec PyProof.Rows L2
/-! ### the table's ground, from what the top has written -/
def freeNames : List Str := ["len", "tuple", "list", "sum", "any", "all", "abs", "min", "max", "int", "str", "sorted", "range", "enumerate", "zip", "isinstance", "bool", "set"]
def frees : List He.Fa := freeNames.map .free
def exFa (exs : List Str) : List He.Fa := exs.flatMap fun x => .glo x :: .exc x :: exs.map fun y => .exm x y (decide (x = y))
def datXs (gl : List (Str × D)) : List Xa := .blt "gcd" "math.gcd" :: gl.map fun p => .dat p.1 p.2
def glbk (P : Program) (w : World) (K : PySem.W.Frag) (mg : Str → Option Value) (base : Heap) (k : Nat) (Γ : Gam) : Glb := ⟨P, w, K, mg, base, k, Γ, fun x => .ref (He.ga K x)⟩
abbrev glb0 (P : Program) (w : World) (K : PySem.W.Frag) (mg : Str → Option Value) (base : Heap) (Γ : Gam) : Glb := glbk P w K mg base 0 Γ
section
variable {P : Program} {w : World} {K : PySem.W.Frag} {h : Heap} {mg : Str → Option Value} {base : Heap} {exs : List Str} {gs : List He.Fa} {fn : List He.DefD} {gl : List (Str × D)} {xs : List Xa} {Γ : Gam}
theorem fa_glo (c : SaysX (frees ++ (exFa exs ++ gs)) fn xs K) (i : Nat) {f : He.Fa} (h : gs[i]? = some f) : f.ok K = true :=
  c.fact (List.mem_append_right _ (List.mem_append_right _ (List.mem_of_getElem? h)))
theorem fr_ok (X : K.In h) (G : h.Ns mainGlobals mg) (c : SaysX (frees ++ (exFa exs ++ gs)) fn xs K) (i : Nat) {x : Str} (hx : freeNames[i]? = some x) : mg x = none :=
  He.free_ok X G (c.fact (f := .free x) (List.mem_append_left _ (List.mem_map.mpr ⟨x, List.mem_of_getElem? hx, rfl⟩)))
theorem lookup_in {α : Type} {x : Str} {a : α} : ∀ {l : List (Str × α)}, l.lookup x = some a → (x, a) ∈ l := fun h => PySem.mem_of_lookup h
theorem g0_ok (X : K.In h) (G : h.Ns mainGlobals mg) (c : SaysX (frees ++ (exFa exs ++ gs)) fn (datXs gl ++ xs) K) (hf : Γ.fs = []) (hg : Γ.gl = gl) : GOk (glb0 P w K mg base Γ) where
  fn := fun f hf' => by
    have : f ∈ Γ.fs := hf'
    rw [hf] at this
    cases this
  bi := fun b hb => by
    show mg b.nm = none
    cases b with
    | len => exact fr_ok X G c 0 rfl
    | tuple => exact fr_ok X G c 1 rfl
    | list => exact fr_ok X G c 2 rfl
    | sum => exact fr_ok X G c 3 rfl
    | any => exact fr_ok X G c 4 rfl
    | all => exact fr_ok X G c 5 rfl
    | abs => exact fr_ok X G c 6 rfl
    | min => exact fr_ok X G c 7 rfl
    | max => exact fr_ok X G c 8 rfl
    | int => exact fr_ok X G c 9 rfl
    | str => exact fr_ok X G c 10 rfl
    | gcd => exact absurd rfl hb
    | sorted => exact fr_ok X G c 11 rfl
  gcd := Xa.blt_ok X G (c.xa (List.mem_append_left _ List.mem_cons_self))
  rng := fr_ok X G c 12 rfl
  enm := fr_ok X G c 13 rfl
  zip := fr_ok X G c 14 rfl
  isi := fr_ok X G c 15 rfl
  bool := fr_ok X G c 16 rfl
  set := fr_ok X G c 17 rfl
  gl := fun x d hx => by
    have hx : Γ.gl.lookup x = some d := hx
    rw [hg] at hx
    exact Xa.dat_ok X G (c.xa (List.mem_append_left _ (List.mem_cons_of_mem _ (List.mem_map.mpr ⟨(x, d), lookup_in hx, rfl⟩))))
theorem e0_ok (X : K.In h) (G : h.Ns mainGlobals mg) (c : SaysX (frees ++ (exFa exs ++ gs)) fn xs K) (he : Γ.exs = exs) : EOk (glb0 P w K mg base Γ) := by
  have mem : ∀ {f : He.Fa}, f ∈ exFa exs → f.ok K = true := fun {f} hf => c.fact (List.mem_append_right _ (List.mem_append_left _ hf))
  refine ⟨fun x hx => ?_, fun x hx y hy => ?_⟩
  · have hx : x ∈ exs := by rw [← he]; exact hx
    have m1 : He.Fa.glo x ∈ exFa exs := List.mem_flatMap.mpr ⟨x, hx, List.mem_cons_self⟩
    have m2 : He.Fa.exc x ∈ exFa exs := List.mem_flatMap.mpr ⟨x, hx, List.mem_cons_of_mem _ List.mem_cons_self⟩
    obtain ⟨q1, q2, q3, q4⟩ := He.exc_ok (mem m2)
    exact ⟨He.ga K x, He.glo_ok X G (mem m1), rfl, q1, q2, q3, q4⟩
  · have hx : x ∈ exs := by rw [← he]; exact hx
    have hy : y ∈ exs := by rw [← he]; exact hy
    exact He.exm_ok (mem (List.mem_flatMap.mpr ⟨x, hx, List.mem_cons_of_mem _ (List.mem_cons_of_mem _ (List.mem_map.mpr ⟨y, hy, rfl⟩))⟩))
end
def dX (x : Str) (i : Nat) : He.DefD := ⟨(x, none), x, x, defArgs (topS i), defBody (topS i), defScope (topS i), [], []⟩
theorem def_at {fa : List He.Fa} {fn : List He.DefD} {xs : List Xa} {K : PySem.W.Frag} (c : SaysX fa fn xs K) (i : Nat) {x : Str} {j : Nat} (h : fn[i]? = some (dX x j)) : ∃ fd, FunS K x (topS j) (He.ga K x) fd := c.d.def_ i h
/-- the end, from the facts of the top -/
theorem walk_end {l : PySem.W.OpenLaw} {n : Nat} {q : Program} {loose : List Str} {XP : (Str → Option Value) → Heap → Prop} {fa : List He.Fa} {fn : List He.DefD} {xs : List Xa} {d : DefRec} (hn : l.most = some 63) (hdf : d.params.defaults = []) (hnm : d.name = ("law" : Str))
    (hr : Room n callerA)
    (F : ∀ (w : World) (K : PySem.W.Frag) (h : Heap) (mg : Str → Option Value) (f : Addr), K.In h → h.Ns mainGlobals mg → mg ("law" : Str) = some (.ref f) → SaysX fa fn xs K →
      ∃ fd : FuncData, (∀ (s : Shared) (v : Value), BindsTo s fd ⟨[v], []⟩ [("script", v)]) ∧ ∀ base : Heap, K.In base → base.Ns mainGlobals mg → FnOk l.prog w K mg base (L2.CX l.prog w) n f fd ["script"] (spLaw K)) :
    PySem.W.WalkO q loose XP (fun _ h => ∃ K : PySem.W.Frag, K.In h ∧ SaysX fa fn xs K) l.row.toRowW d [] (fun f vs => PySem.call f vs) := by
  refine LamX.walk_ofTsE (n := 63) (k := n) (x := "script") (CX := fun w => L2.CX l.prog w) hn (by decide) hdf hr (fun w mg fa h Y G hmg => ?_) (fun w H s e s' z => ?_)
  · obtain ⟨K, KX, c⟩ := Y
    rw [hnm] at hmg
    obtain ⟨fd, hb, hF⟩ := F w K h mg fa KX G hmg c
    exact ⟨K, KX, fd, [], spLaw K, nofun, nofun, nofun, hb, fun H a ns h1 _ _ h4 => ⟨a, ns, rfl, h4, h1, fun _ => rfl⟩, fun base hk hn _ => hF base hk hn⟩
  · obtain ⟨_, _, _, _, _, _, _, _, _, _, _, _, z⟩ := z
    exact z.elim
end DL

set_option Elab.async false
set_option linter.all false
set_option maxRecDepth 100000
set_option maxHeartbeats 4000000
namespace DL
open PySem PySem.Spec PyProof.Rows L2
/-! ### the meaning, computed where the data's kind is known -/
section
variable {α : Type} {Q : D → Prop} {a b : List D} {i j : Int} {p q : Bool} {d : D}
theorem w_some {x : α} {R : α → Prop} : optQ (some x) R = R x := rfl
theorem w_none {R : α → Prop} : optQ none R = False := rfl
theorem w_fz0 : fzs [] = some [] := rfl
theorem w_fz1 {s : D} {r : List Sl} : fzs (.fz s :: r) = (fzs r).map (s :: ·) := rfl
theorem w_t0 : truD .none = some false := rfl
theorem w_t1 : truD (.bool p) = some p := rfl
theorem w_t2 : truD (.int i) = some (i != 0) := rfl
theorem w_t3 : truD (.list a) = some (!a.isEmpty) := rfl
theorem w_t4 : truD (.tuple a) = some (!a.isEmpty) := rfl
theorem w_add : dAdd (.int i) (.int j) Q = Q (.int (i + j)) := rfl
theorem w_addL : dAdd (.list a) (.list b) Q = (a.length + b.length ≤ sizeLine ∧ Q (.list (a ++ b))) := rfl
theorem w_addT : dAdd (.tuple a) (.tuple b) Q = (a.length + b.length ≤ sizeLine ∧ Q (.tuple (a ++ b))) := rfl
theorem w_sub : dSub (.int i) (.int j) Q = Q (.int (i - j)) := rfl
theorem w_subB : dSub (.bool p) (.bool q) Q = Q (.int (PyProof.Rows.b2i p - PyProof.Rows.b2i q)) := rfl
theorem w_mul : dMul (.int i) (.int j) Q = (dMulOk i j ∧ Q (.int (i * j))) := rfl
theorem w_mulL : dMul (.list a) (.int i) Q = (-(2 ^ 63) ≤ i ∧ i < 2 ^ 63 ∧ a.length * i.toNat ≤ sizeLine ∧ Q (.list (repD i a))) := rfl
theorem w_mulT : dMul (.tuple a) (.int i) Q = (a ≠ [] ∧ 2 ≤ i ∧ i ≤ 1000 ∧ a.length ≤ 1000 ∧ Q (.tuple (repD i a))) := rfl
theorem w_mod : dMod (.int i) (.int j) Q = (j ≠ 0 ∧ Q (.int (i.fmod j))) := rfl
theorem w_div : dDiv (.int i) (.int j) Q = (dDivOk j ∧ Q (.int (i.fdiv j))) := rfl
theorem w_lt : dLt (.int i) (.int j) Q = Q (.bool (decide (i < j))) := rfl
theorem w_le : dLe (.int i) (.int j) Q = Q (.bool (decide (i ≤ j))) := rfl
theorem w_gt : dGt (.int i) (.int j) Q = Q (.bool (decide (i > j))) := rfl
theorem w_ge : dGe (.int i) (.int j) Q = Q (.bool (decide (i ≥ j))) := rfl
theorem w_is : dIs d .none Q = Q (.bool (isNone d)) := by cases d <;> rfl
theorem w_isnt : dIsnt d .none Q = Q (.bool (!isNone d)) := by cases d <;> rfl
theorem w_n0 : isNone .none = true := rfl
theorem w_n1 : isNone (.int i) = false := rfl
theorem w_n2 : isNone (.tuple a) = false := rfl
theorem w_n3 : isNone (.list a) = false := rfl
theorem w_n4 : isNone (.bool p) = false := rfl
theorem w_neg : dNeg (.int i) Q = Q (.int (-i)) := rfl
theorem w_atL : dSub1 (.list a) (.int i) Q = optQ (atI a i) Q := rfl
theorem w_atT : dSub1 (.tuple a) (.int i) Q = optQ (atI a i) Q := rfl
theorem w_lenL : dLen [.list a] Q = Q (.int a.length) := rfl
theorem w_lenT : dLen [.tuple a] Q = Q (.int a.length) := rfl
theorem w_tupL : dTuple [.list a] Q = Q (.tuple a) := rfl
theorem w_tupT : dTuple [.tuple a] Q = Q (.tuple a) := rfl
theorem w_lisL : dList [.list a] Q = Q (.list a) := rfl
theorem w_lisT : dList [.tuple a] Q = Q (.list a) := rfl
theorem w_abs : dAbs [.int i] Q = Q (.int i.natAbs) := rfl
theorem w_int : dInt [.int i] Q = Q (.int i) := rfl
theorem w_intB : dInt [.bool p] Q = Q (.int (if p then 1 else 0)) := rfl
theorem w_gcd : dGcd [.int i, .int j] Q = Q (.int (Nat.gcd i.natAbs j.natAbs : Nat)) := rfl
theorem w_min : dMin2 [.int i, .int j] Q = Q (.int (if j < i then j else i)) := rfl
theorem w_max : dMax2 [.int i, .int j] Q = Q (.int (if j > i then j else i)) := rfl
theorem w_seqL {R : List D → Prop} : seqOf (.list a) R = R a := rfl
theorem w_seqT {R : List D → Prop} : seqOf (.tuple a) R = R a := rfl
theorem w_augA : augF .Add (.int i) (.int j) Q = Q (.int (i + j)) := rfl
theorem w_augS : augF .Sub (.int i) (.int j) Q = Q (.int (i - j)) := rfl
theorem w_augM : augF .Mult (.int i) (.int j) Q = (dMulOk i j ∧ Q (.int (i * j))) := rfl
theorem w_intQ {R : Int → Prop} : intQ (.int i) R = R i := rfl
theorem w_lstQ {R : List D → Prop} : lstQ (.list a) R = R a := rfl
theorem w_rng1 {R : List D → Prop} : rngW [.int j] R = (rngOk j ∧ R (rangeD 0 j.toNat)) := rfl
theorem w_rng2 {R : List D → Prop} : rngW [.int i, .int j] R = (rngOk i ∧ rngOk j ∧ R (rangeD i (j - i).toNat)) := rfl
theorem w_zipL {R : List D → Prop} : zipW (.list a) (.list b) R = R (zipD a b) := rfl
theorem w_zipT {R : List D → Prop} : zipW (.tuple a) (.tuple b) R = R (zipD a b) := rfl
theorem w_enum {R : List D → Prop} : enumW (.list a) R = R (enumD a) := rfl
end
end DL

set_option Elab.async false
set_option linter.all false
set_option maxRecDepth 100000
set_option maxHeartbeats 4000000
namespace DL
open PySem PySem.Spec PyProof.Rows L2
/-! the defs as terms (printed by gen.py) -/
def d_lowest : DF := ⟨"lowest", ["a", "b", "common"], ["a", "b"],
    (.cons (.set 2 (.bi .gcd (.cons (.v 0) (.cons (.v 1) .nil))))
    (.cons (.ife (.cmp .Lt (.v 1) (.int 0)) (.cons (.set 2 (.neg (.v 2)))
    .nil) .nil)
    (.cons (.ret (.tup (.cons (.bin .FloorDiv (.v 0) (.v 2)) (.cons (.bin .FloorDiv (.v 1) (.v 2)) .nil))))
    .nil)))⟩
def d_plus : DF := ⟨"plus", ["p", "q"], ["p", "q"],
    (.cons (.ret (.call "lowest" (.cons (.bin .Add (.bin .Mult (.sub (.v 0) (.int 0)) (.sub (.v 1) (.int 1))) (.bin .Mult (.sub (.v 1) (.int 0)) (.sub (.v 0) (.int 1)))) (.cons (.bin .Mult (.sub (.v 0) (.int 1)) (.sub (.v 1) (.int 1))) .nil))))
    .nil)⟩
def d_minus : DF := ⟨"minus", ["p", "q"], ["p", "q"],
    (.cons (.ret (.call "lowest" (.cons (.bin .Sub (.bin .Mult (.sub (.v 0) (.int 0)) (.sub (.v 1) (.int 1))) (.bin .Mult (.sub (.v 1) (.int 0)) (.sub (.v 0) (.int 1)))) (.cons (.bin .Mult (.sub (.v 0) (.int 1)) (.sub (.v 1) (.int 1))) .nil))))
    .nil)⟩
def d_times : DF := ⟨"times", ["p", "q"], ["p", "q"],
    (.cons (.ret (.call "lowest" (.cons (.bin .Mult (.sub (.v 0) (.int 0)) (.sub (.v 1) (.int 0))) (.cons (.bin .Mult (.sub (.v 0) (.int 1)) (.sub (.v 1) (.int 1))) .nil))))
    .nil)⟩
def d_sign_of : DF := ⟨"sign_of", ["number"], ["number"],
    (.cons (.ret (.bin .Sub (.cmp .Gt (.v 0) (.int 0)) (.cmp .Lt (.v 0) (.int 0))))
    .nil)⟩
def d_compare : DF := ⟨"compare", ["p", "q"], ["p", "q"],
    (.cons (.ret (.call "sign_of" (.cons (.bin .Sub (.bin .Mult (.sub (.v 0) (.int 0)) (.sub (.v 1) (.int 1))) (.bin .Mult (.sub (.v 1) (.int 0)) (.sub (.v 0) (.int 1)))) .nil)))
    .nil)⟩
def d_is_integer : DF := ⟨"is_integer", ["value", "low", "high"], ["value", "low", "high"],
    (.cons (.ife (.or (.not (.isi (.v 0) "int")) (.isi (.v 0) "bool")) (.cons (.ret (.bl false))
    .nil) .nil)
    (.cons (.ret (.and (.or (.cmp .Is (.v 1) .non) (.cmp .GtE (.v 0) (.v 1))) (.or (.cmp .Is (.v 2) .non) (.cmp .LtE (.v 0) (.v 2)))))
    .nil))⟩
def d_is_row : DF := ⟨"is_row", ["value", "low", "high", "one"], ["value", "low", "high"],
    (.cons (.ret (.and (.isi (.v 0) "tuple") (.bi .all (.cons (.comp [("one", 3)] (.call "is_integer" (.cons (.v 3) (.cons (.v 1) (.cons (.v 2) .nil)))) (.n 3) (.seq (.v 0)) .no) .nil))))
    .nil)⟩
def d_total_of : DF := ⟨"total_of", ["ratios", "told", "one"], ["ratios"],
    (.cons (.set 1 (.g "NOTHING"))
    (.cons (.loop (.n 2) (.seq (.v 0)) (.cons (.set 1 (.call "plus" (.cons (.v 1) (.cons (.v 2) .nil))))
    .nil))
    (.cons (.ret (.v 1))
    .nil)))⟩
def d_lesser : DF := ⟨"lesser", ["p", "q"], ["p", "q"],
    (.cons (.ret (.ite (.cmp .LtE (.call "compare" (.cons (.v 0) (.cons (.v 1) .nil))) (.int 0)) (.v 0) (.v 1)))
    .nil)⟩
def d_is_family : DF := ⟨"is_family", ["value", "r", "functions", "one"], ["value"],
    (.cons (.ife (.or (.not (.isi (.v 0) "tuple")) (.or (.cmp .NotEq (.bi .len (.cons (.v 0) .nil)) (.int 2)) (.not (.call "is_integer" (.cons (.sub (.v 0) (.int 0)) (.cons (.int 1) (.cons (.g "MAX_VALUES") .nil))))))) (.cons (.ret (.bl false))
    .nil) .nil)
    (.cons (.unp (.cons (.n 1) (.cons (.n 2) .nil)) (.v 0))
    (.cons (.ife (.or (.not (.isi (.v 2) "tuple")) (.not (.chain .LtE .LtE (.int 1) (.bi .len (.cons (.v 2) .nil)) (.g "MAX_FUNCTIONS")))) (.cons (.ret (.bl false))
    .nil) .nil)
    (.cons (.ife (.not (.bi .all (.cons (.comp [("one", 3)] (.call "is_row" (.cons (.v 3) (.cons (.int 0) (.cons (.bin .Sub (.v 1) (.int 1)) .nil)))) (.n 3) (.seq (.v 2)) .no) .nil))) (.cons (.ret (.bl false))
    .nil) .nil)
    (.cons (.ret (.and (.chain .LtE .LtE (.int 1) (.bi .len (.cons (.sub (.v 2) (.int 0)) .nil)) (.g "MAX_KEYS")) (.bi .all (.cons (.comp [("one", 3)] (.cmp .Eq (.bi .len (.cons (.v 3) .nil)) (.bi .len (.cons (.sub (.v 2) (.int 0)) .nil))) (.n 3) (.seq (.v 2)) .no) .nil))))
    .nil)))))⟩
def d_check_family : DF := ⟨"check_family", ["family"], ["family"],
    (.cons (.ife (.not (.call "is_family" (.cons (.v 0) .nil))) (.cons (.rais "NotAllowed")
    .nil) .nil)
    .nil)⟩
def d_meeting : DF := ⟨"meeting", ["family", "a", "b", "functions", "one"], ["family", "a", "b"],
    (.cons (.set 3 (.sub (.v 0) (.int 1)))
    (.cons (.ret (.call "lowest" (.cons (.bi .len (.cons (.comp [("one", 4)] (.v 4) (.n 4) (.seq (.v 3)) (.so (.cmp .Eq (.sub (.v 4) (.v 1)) (.sub (.v 4) (.v 2))))) .nil)) (.cons (.bi .len (.cons (.v 3) .nil)) .nil))))
    .nil))⟩
def d_pairs_of_keys : DF := ⟨"pairs_of_keys", ["family", "many", "a", "b"], ["family"],
    (.cons (.set 1 (.bi .len (.cons (.sub (.sub (.v 0) (.int 1)) (.int 0)) .nil)))
    (.cons (.ret (.comp2 [("a", 2), ("b", 3)] (.tup (.cons (.v 2) (.cons (.v 3) .nil))) (.n 2) (.rng (.cons (.v 1) .nil)) .no (.n 3) (.rng (.cons (.bin .Add (.v 2) (.int 1)) (.cons (.v 1) .nil))) .no))
    .nil))⟩
def d_is_universal : DF := ⟨"is_universal", ["family", "bound", "a", "b"], ["family"],
    (.cons (.set 1 (.call "lowest" (.cons (.int 1) (.cons (.sub (.v 0) (.int 0)) .nil))))
    (.cons (.ret (.bi .all (.cons (.comp [("a", 2), ("b", 3)] (.cmp .LtE (.call "compare" (.cons (.call "meeting" (.cons (.v 0) (.cons (.v 2) (.cons (.v 3) .nil)))) (.cons (.v 1) .nil))) (.int 0)) (.t (.cons (.n 2) (.cons (.n 3) .nil))) (.seq (.call "pairs_of_keys" (.cons (.v 0) .nil))) .no) .nil)))
    .nil))⟩
def d_is_independent : DF := ⟨"is_independent", ["family", "r", "functions", "a", "b", "v", "w", "many", "one"], ["family"],
    (.cons (.unp (.cons (.n 1) (.cons (.n 2) .nil)) (.v 0))
    (.cons (.loop (.t (.cons (.n 3) (.cons (.n 4) .nil))) (.seq (.call "pairs_of_keys" (.cons (.v 0) .nil))) (.cons (.loop (.n 5) (.rng (.cons (.v 1) .nil)) (.cons (.loop (.n 6) (.rng (.cons (.v 1) .nil)) (.cons (.set 7 (.bi .len (.cons (.comp [("one", 8)] (.v 8) (.n 8) (.seq (.v 2)) (.so (.and (.cmp .Eq (.sub (.v 8) (.v 3)) (.v 5)) (.cmp .Eq (.sub (.v 8) (.v 4)) (.v 6))))) .nil)))
    (.cons (.ife (.cmp .NotEq (.bin .Mult (.bin .Mult (.v 7) (.v 1)) (.v 1)) (.bi .len (.cons (.v 2) .nil))) (.cons (.ret (.bl false))
    .nil) .nil)
    .nil)))
    .nil))
    .nil))
    (.cons (.ret (.bl true))
    .nil)))⟩
def d_lines_family : DF := ⟨"lines_family", ["p", "functions", "a", "b", "k"], ["p"],
    (.cons (.ife (.or (.not (.call "is_integer" (.cons (.v 0) (.cons (.int 2) (.cons (.int 5) .nil))))) (.cmp .Eq (.v 0) (.int 4))) (.cons (.rais "NotAllowed")
    .nil) .nil)
    (.cons (.set 1 (.comp2 [("a", 2), ("b", 3)] (.bi .tuple (.cons (.comp [("k", 4)] (.bin .Mod (.bin .Add (.bin .Mult (.v 2) (.v 4)) (.v 3)) (.v 0)) (.n 4) (.rng (.cons (.v 0) .nil)) .no) .nil)) (.n 2) (.rng (.cons (.v 0) .nil)) .no (.n 3) (.rng (.cons (.v 0) .nil)) .no))
    (.cons (.ret (.tup (.cons (.v 0) (.cons (.bi .tuple (.cons (.v 1) .nil)) .nil))))
    .nil)))⟩
def d_drawn : DF := ⟨"drawn", ["family", "row", "r", "functions", "share", "found", "one", "value", "chance", "k"], ["family", "row"],
    (.cons (.unp (.cons (.n 2) (.cons (.n 3) .nil)) (.v 0))
    (.cons (.set 4 (.call "lowest" (.cons (.int 1) (.cons (.bi .len (.cons (.v 3) .nil)) .nil))))
    (.cons (.own 5 (.lst .nil))
    (.cons (.loop (.n 6) (.seq (.v 3)) (.cons (.loop (.n 7) (.rng (.cons (.v 2) .nil)) (.cons (.set 8 (.call "total_of" (.cons (.comp [("k", 9)] (.sub (.v 1) (.v 9)) (.n 9) (.rng (.cons (.bi .len (.cons (.v 1) .nil)) .nil)) (.so (.cmp .Eq (.sub (.v 6) (.v 9)) (.v 7)))) .nil)))
    (.cons (.app 5 (.call "times" (.cons (.v 4) (.cons (.v 8) .nil))))
    .nil)))
    .nil))
    (.cons (.ret (.bi .tuple (.cons (.b 5) .nil)))
    .nil)))))⟩
def d_distance : DF := ⟨"distance", ["one", "other", "told", "a", "b", "less"], ["one", "other"],
    (.cons (.set 2 (.g "NOTHING"))
    (.cons (.loop (.t (.cons (.n 3) (.cons (.n 4) .nil))) (.zip (.v 0) (.v 1)) (.cons (.set 5 (.call "minus" (.cons (.v 3) (.cons (.call "lesser" (.cons (.v 3) (.cons (.v 4) .nil))) .nil))))
    (.cons (.set 2 (.call "plus" (.cons (.v 2) (.cons (.v 5) .nil))))
    .nil)))
    (.cons (.ret (.v 2))
    .nil)))⟩
def d_from_even : DF := ⟨"from_even", ["family", "row", "found"], ["family", "row"],
    (.cons (.set 2 (.call "drawn" (.cons (.v 0) (.cons (.v 1) .nil))))
    (.cons (.ret (.call "distance" (.cons (.v 2) (.cons (.bi .tuple (.cons (.bin .Mult (.lst (.cons (.call "lowest" (.cons (.int 1) (.cons (.bi .len (.cons (.v 2) .nil)) .nil))) .nil)) (.bi .len (.cons (.v 2) .nil))) .nil)) .nil))))
    .nil))⟩
def d_meeting_of : DF := ⟨"meeting_of", ["row", "one"], ["row"],
    (.cons (.ret (.call "total_of" (.cons (.comp [("one", 1)] (.call "times" (.cons (.v 1) (.cons (.v 1) .nil))) (.n 1) (.seq (.v 0)) .no) .nil)))
    .nil)⟩
def d__law_pairs_below : DF := ⟨"_law_pairs_below", ["many", "found", "i", "j"], ["many"],
    (.cons (.set 1 (.lst .nil))
    (.cons (.loop (.n 2) (.rng (.cons (.v 0) .nil)) (.cons (.set 1 (.bin .Add (.v 1) (.comp [("j", 3)] (.tup (.cons (.v 2) (.cons (.v 3) .nil))) (.n 3) (.rng (.cons (.v 0) .nil)) .no)))
    .nil))
    (.cons (.ret (.v 1))
    .nil)))⟩
def d__law_lowest : DF := ⟨"_law_lowest", ["a", "b", "c", "d"], ["a", "b"],
    (.cons (.unp (.cons (.n 2) (.cons (.n 3) .nil)) (.tup (.cons (.bi .abs (.cons (.v 0) .nil)) (.cons (.v 1) .nil))))
    (.cons (.whl (.cmp .Gt (.v 3) (.int 0)) (.cons (.unp (.cons (.n 2) (.cons (.n 3) .nil)) (.tup (.cons (.v 3) (.cons (.bin .Sub (.v 2) (.bin .Mult (.v 3) (.bin .FloorDiv (.v 2) (.v 3)))) .nil))))
    .nil))
    (.cons (.ret (.tup (.cons (.bin .FloorDiv (.v 0) (.v 2)) (.cons (.bin .FloorDiv (.v 1) (.v 2)) .nil))))
    .nil)))⟩
def d__law_plus : DF := ⟨"_law_plus", ["p", "q"], ["p", "q"],
    (.cons (.ret (.call "_law_lowest" (.cons (.bin .Add (.bin .Mult (.sub (.v 0) (.int 0)) (.sub (.v 1) (.int 1))) (.bin .Mult (.sub (.v 1) (.int 0)) (.sub (.v 0) (.int 1)))) (.cons (.bin .Mult (.sub (.v 0) (.int 1)) (.sub (.v 1) (.int 1))) .nil))))
    .nil)⟩
def d__law_times : DF := ⟨"_law_times", ["p", "q"], ["p", "q"],
    (.cons (.ret (.call "_law_lowest" (.cons (.bin .Mult (.sub (.v 0) (.int 0)) (.sub (.v 1) (.int 0))) (.cons (.bin .Mult (.sub (.v 0) (.int 1)) (.sub (.v 1) (.int 1))) .nil))))
    .nil)⟩
def d__law_less : DF := ⟨"_law_less", ["p", "q"], ["p", "q"],
    (.cons (.ret (.cmp .Lt (.bin .Mult (.sub (.v 0) (.int 0)) (.sub (.v 1) (.int 1))) (.bin .Mult (.sub (.v 1) (.int 0)) (.sub (.v 0) (.int 1)))))
    .nil)⟩
def d__law_total : DF := ⟨"_law_total", ["ratios", "told", "p"], ["ratios"],
    (.cons (.set 1 (.tup (.cons (.int 0) (.cons (.int 1) .nil))))
    (.cons (.loop (.n 2) (.seq (.v 0)) (.cons (.set 1 (.call "_law_plus" (.cons (.v 1) (.cons (.v 2) .nil))))
    .nil))
    (.cons (.ret (.v 1))
    .nil)))⟩
def d__law_row : DF := ⟨"_law_row", ["draw", "many", "row", "k", "one"], ["draw", "many"],
    (.cons (.own 2 (.comp [("k", 3)] (.sub (.lst (.cons (.int 0) (.cons (.int 1) (.cons (.int 1) (.cons (.int 2) (.cons (.int 3) .nil)))))) (.call "_law_take" (.dr 0 (.cons (.int 5) .nil)))) (.n 3) (.rng (.cons (.v 1) .nil)) .no))
    (.cons (.augp 2 (.call "_law_take" (.dr 0 (.cons (.v 1) .nil))) .Add (.int 1))
    (.cons (.frz 2)
    (.cons (.ret (.bi .tuple (.cons (.comp [("one", 4)] (.call "_law_lowest" (.cons (.v 4) (.cons (.bi .sum (.cons (.b 2) .nil)) .nil))) (.n 4) (.seq (.v 2)) .no) .nil)))
    .nil))))⟩
def d__law_channel : DF := ⟨"_law_channel", ["draw", "m", "n", "rows", "x"], ["draw", "m", "n"],
    (.cons (.own 3 (.comp [("x", 4)] (.call "_law_row" (.dr 0 (.cons (.v 2) .nil))) (.n 4) (.rng (.cons (.v 1) .nil)) .no))
    (.cons (.ife (.and (.cmp .Gt (.v 1) (.int 1)) (.cmp .Eq (.call "_law_take" (.dr 0 (.cons (.int 4) .nil))) (.int 0))) (.cons (.put 3 (.call "_law_take" (.dr 0 (.cons (.v 1) .nil))) (.sub (.b 3) (.call "_law_take" (.dr 0 (.cons (.v 1) .nil)))))
    .nil) .nil)
    (.cons (.ret (.bi .tuple (.cons (.b 3) .nil)))
    .nil)))⟩
def d__law_gains : DF := ⟨"_law_gains", ["draw", "m", "most", "w", "x"], ["draw", "m", "most"],
    (.cons (.ret (.bi .tuple (.cons (.comp [("w", 3)] (.bi .tuple (.cons (.comp [("x", 4)] (.sub (.lst (.cons (.int 0) (.cons (.int 1) (.cons (.int 2) (.cons (.int 5) (.cons (.neg (.int 3)) .nil)))))) (.call "_law_take" (.dr 0 (.cons (.int 5) .nil)))) (.n 4) (.rng (.cons (.v 1) .nil)) .no) .nil)) (.n 3) (.rng (.cons (.bin .Add (.int 1) (.call "_law_take" (.dr 0 (.cons (.v 2) .nil)))) .nil)) .no) .nil)))
    .nil)⟩
def d__law_worth : DF := ⟨"_law_worth", ["prior", "channel", "gains", "told", "y", "best", "row", "one", "x"], ["prior", "channel", "gains"],
    (.cons (.set 3 (.tup (.cons (.int 0) (.cons (.int 1) .nil))))
    (.cons (.loop (.n 4) (.rng (.cons (.bi .len (.cons (.sub (.v 1) (.int 0)) .nil)) .nil)) (.cons (.set 5 .non)
    (.cons (.loop (.n 6) (.seq (.v 2)) (.cons (.set 7 (.tup (.cons (.int 0) (.cons (.int 1) .nil))))
    (.cons (.loop (.n 8) (.rng (.cons (.bi .len (.cons (.v 0) .nil)) .nil)) (.cons (.set 7 (.call "_law_plus" (.cons (.v 7) (.cons (.call "_law_times" (.cons (.call "_law_times" (.cons (.sub (.v 0) (.v 8)) (.cons (.sub (.sub (.v 1) (.v 8)) (.v 4)) .nil))) (.cons (.tup (.cons (.sub (.v 6) (.v 8)) (.cons (.int 1) .nil))) .nil))) .nil))))
    .nil))
    (.cons (.ife (.or (.cmp .Is (.v 5) .non) (.call "_law_less" (.cons (.v 5) (.cons (.v 7) .nil)))) (.cons (.set 5 (.v 7))
    .nil) .nil)
    .nil))))
    (.cons (.set 3 (.call "_law_plus" (.cons (.v 3) (.cons (.v 5) .nil))))
    .nil))))
    (.cons (.ret (.v 3))
    .nil)))⟩
def d__law_refused : DF := ⟨"_law_refused", ["family"], ["family"],
    (.cons (.try1 (.cons (.expr (.call "check_family" (.cons (.v 0) .nil)))
    .nil) "NotAllowed" (.bl true))
    (.cons (.ret (.bl false))
    .nil))⟩
def d__law_lines : DF := ⟨"_law_lines", ["p"], ["p"],
    (.cons (.try1 (.cons (.ret (.call "lines_family" (.cons (.v 0) .nil)))
    .nil) "NotAllowed" .non)
    .nil)⟩
def d__law_met : DF := ⟨"_law_met", ["family", "a", "b", "one"], ["family", "a", "b"],
    (.cons (.ret (.call "_law_lowest" (.cons (.bi .len (.cons (.comp [("one", 3)] (.int 1) (.n 3) (.seq (.sub (.v 0) (.int 1))) (.so (.cmp .Eq (.sub (.v 3) (.v 1)) (.sub (.v 3) (.v 2))))) .nil)) (.cons (.bi .len (.cons (.sub (.v 0) (.int 1)) .nil)) .nil))))
    .nil)⟩
def d__law_universal : DF := ⟨"_law_universal", ["family", "n", "a", "b"], ["family"],
    (.cons (.set 1 (.bi .len (.cons (.sub (.sub (.v 0) (.int 1)) (.int 0)) .nil)))
    (.cons (.ret (.cmp .Eq (.comp [("a", 2), ("b", 3)] (.int 1) (.t (.cons (.n 2) (.cons (.n 3) .nil))) (.seq (.call "_law_pairs_below" (.cons (.v 1) .nil))) (.so (.and (.cmp .NotEq (.v 2) (.v 3)) (.call "_law_less" (.cons (.tup (.cons (.int 1) (.cons (.sub (.v 0) (.int 0)) .nil))) (.cons (.call "_law_met" (.cons (.v 0) (.cons (.v 2) (.cons (.v 3) .nil)))) .nil)))))) (.lst .nil)))
    .nil))⟩
def d__law_independent : DF := ⟨"_law_independent", ["family", "r", "functions", "a", "b", "v", "w", "one"], ["family"],
    (.cons (.unp (.cons (.n 1) (.cons (.n 2) .nil)) (.v 0))
    (.cons (.loop (.t (.cons (.n 3) (.cons (.n 4) .nil))) (.seq (.call "_law_pairs_below" (.cons (.bi .len (.cons (.sub (.v 2) (.int 0)) .nil)) .nil))) (.cons (.loop (.t (.cons (.n 5) (.cons (.n 6) .nil))) (.seq (.call "_law_pairs_below" (.cons (.v 1) .nil))) (.cons (.ife (.and (.cmp .NotEq (.v 3) (.v 4)) (.cmp .NotEq (.bin .Mult (.bin .Mult (.bi .len (.cons (.comp [("one", 7)] (.int 1) (.n 7) (.seq (.v 2)) (.so (.and (.cmp .Eq (.sub (.v 7) (.v 3)) (.v 5)) (.cmp .Eq (.sub (.v 7) (.v 4)) (.v 6))))) .nil)) (.v 1)) (.v 1)) (.bi .len (.cons (.v 2) .nil)))) (.cons (.ret (.bl false))
    .nil) .nil)
    .nil))
    .nil))
    (.cons (.ret (.bl true))
    .nil)))⟩
def d__law_fine : DF := ⟨"_law_fine", ["draw", "family", "r", "functions", "n", "row", "due", "far", "even", "one", "value", "told", "less", "meet", "a", "b", "k", "p"], ["draw", "family"],
    (.cons (.unp (.cons (.n 2) (.cons (.n 3) .nil)) (.v 1))
    (.cons (.set 4 (.bi .len (.cons (.sub (.v 3) (.int 0)) .nil)))
    (.cons (.ife (.or (.cmp .IsNot (.call "check_family" (.cons (.v 1) .nil)) .non) (.or (.cmp .NotEq (.call "is_universal" (.cons (.v 1) .nil)) (.call "_law_universal" (.cons (.v 1) .nil))) (.cmp .NotEq (.call "is_independent" (.cons (.v 1) .nil)) (.call "_law_independent" (.cons (.v 1) .nil))))) (.cons (.ret (.bl false))
    .nil) .nil)
    (.cons (.ife (.or (.cmp .NotEq (.comp [("a", 14), ("b", 15)] (.int 1) (.t (.cons (.n 14) (.cons (.n 15) .nil))) (.seq (.call "_law_pairs_below" (.cons (.v 4) .nil))) (.so (.cmp .NotEq (.call "meeting" (.cons (.v 1) (.cons (.v 14) (.cons (.v 15) .nil)))) (.call "_law_met" (.cons (.v 1) (.cons (.v 14) (.cons (.v 15) .nil))))))) (.lst .nil)) (.and (.call "_law_independent" (.cons (.v 1) .nil)) (.not (.call "_law_universal" (.cons (.v 1) .nil))))) (.cons (.ret (.bl false))
    .nil) .nil)
    (.cons (.set 5 (.call "_law_row" (.dr 0 (.cons (.v 4) .nil))))
    (.cons (.own 6 (.lst .nil))
    (.cons (.set 7 (.tup (.cons (.int 0) (.cons (.int 1) .nil))))
    (.cons (.set 8 (.call "_law_lowest" (.cons (.int 1) (.cons (.bin .Mult (.v 2) (.bi .len (.cons (.v 3) .nil))) .nil))))
    (.cons (.loop (.n 9) (.seq (.v 3)) (.cons (.loop (.n 10) (.rng (.cons (.v 2) .nil)) (.cons (.set 11 (.call "_law_total" (.cons (.comp [("k", 16)] (.sub (.v 5) (.v 16)) (.n 16) (.rng (.cons (.v 4) .nil)) (.so (.cmp .Eq (.sub (.v 9) (.v 16)) (.v 10)))) .nil)))
    (.cons (.app 6 (.call "_law_lowest" (.cons (.sub (.v 11) (.int 0)) (.cons (.bin .Mult (.sub (.v 11) (.int 1)) (.bi .len (.cons (.v 3) .nil))) .nil))))
    (.cons (.set 12 (.call "_law_plus" (.cons (.sub (.b 6) (.neg (.int 1))) (.cons (.tup (.cons (.neg (.sub (.v 8) (.int 0))) (.cons (.sub (.v 8) (.int 1)) .nil))) .nil))))
    (.cons (.set 7 (.call "_law_plus" (.cons (.v 7) (.cons (.call "_law_lowest" (.cons (.bi .abs (.cons (.sub (.v 12) (.int 0)) .nil)) (.cons (.bin .Mult (.int 2) (.sub (.v 12) (.int 1))) .nil))) .nil))))
    .nil)))))
    .nil))
    (.cons (.set 13 (.call "_law_total" (.cons (.comp [("p", 17)] (.call "_law_times" (.cons (.v 17) (.cons (.v 17) .nil))) (.n 17) (.seq (.v 5)) .no) .nil)))
    (.cons (.ife (.or (.cmp .NotEq (.call "drawn" (.cons (.v 1) (.cons (.v 5) .nil))) (.bi .tuple (.cons (.b 6) .nil))) (.or (.cmp .NotEq (.call "from_even" (.cons (.v 1) (.cons (.v 5) .nil))) (.v 7)) (.cmp .NotEq (.call "meeting_of" (.cons (.v 5) .nil)) (.v 13)))) (.cons (.ret (.bl false))
    .nil) .nil)
    (.cons (.ret (.or (.not (.call "_law_universal" (.cons (.v 1) .nil))) (.not (.call "_law_less" (.cons (.call "_law_times" (.cons (.tup (.cons (.v 2) (.cons (.int 1) .nil))) (.cons (.v 13) .nil))) (.cons (.call "_law_times" (.cons (.tup (.cons (.int 4) (.cons (.int 1) .nil))) (.cons (.call "_law_times" (.cons (.v 7) (.cons (.v 7) .nil))) .nil))) .nil))))))
    .nil))))))))))))⟩
def d_law : DF := ⟨"law", ["script", "draw", "r", "n", "family", "p", "told", "due", "a", "b", "part", "one", "wrong", "j", "k", "bad"], ["script"],
    (.cons (.ife (.cmp .NotEq (.g "MAX_FUNCTIONS") (.int 30)) (.cons (.ret (.bl false))
    .nil) .nil)
    (.cons (.unp (.cons (.n 2) (.cons (.n 3) .nil)) (.tup (.cons (.bin .Add (.int 1) (.call "_law_take" (.dr 1 (.cons (.int 4) .nil)))) (.cons (.bin .Add (.int 1) (.call "_law_take" (.dr 1 (.cons (.int 4) .nil)))) .nil))))
    (.cons (.set 4 (.tup (.cons (.v 2) (.cons (.bi .tuple (.cons (.comp [("j", 13)] (.bi .tuple (.cons (.comp [("k", 14)] (.call "_law_take" (.dr 1 (.cons (.v 2) .nil))) (.n 14) (.rng (.cons (.v 3) .nil)) .no) .nil)) (.n 13) (.rng (.cons (.bin .Add (.int 1) (.call "_law_take" (.dr 1 (.cons (.int 6) .nil)))) .nil)) .no) .nil)) .nil))))
    (.cons (.ife (.not (.call "_law_fine" (.dr 1 (.cons (.v 4) .nil)))) (.cons (.ret (.bl false))
    .nil) .nil)
    (.cons (.set 5 (.bin .Add (.int 1) (.call "_law_take" (.dr 1 (.cons (.int 6) .nil)))))
    (.cons (.set 6 (.call "_law_lines" (.cons (.v 5) .nil)))
    (.cons (.ife (.cmp .NotEq (.cmp .IsNot (.v 6) .non) (.cmp .In (.v 5) (.lst (.cons (.int 2) (.cons (.int 3) (.cons (.int 5) .nil)))))) (.cons (.ret (.bl false))
    .nil) .nil)
    (.cons (.ife (.cmp .IsNot (.v 6) .non) (.cons (.own 7 (.lst .nil))
    (.cons (.loop (.t (.cons (.n 8) (.cons (.n 9) .nil))) (.seq (.call "_law_pairs_below" (.cons (.v 5) .nil))) (.cons (.app 7 (.bi .tuple (.cons (.comp [("k", 14)] (.bin .Sub (.bin .Add (.bin .Mult (.v 8) (.v 14)) (.v 9)) (.bin .Mult (.v 5) (.bin .FloorDiv (.bin .Add (.bin .Mult (.v 8) (.v 14)) (.v 9)) (.v 5)))) (.n 14) (.rng (.cons (.v 5) .nil)) .no) .nil)))
    .nil))
    (.cons (.ife (.or (.cmp .NotEq (.v 6) (.tup (.cons (.v 5) (.cons (.bi .tuple (.cons (.b 7) .nil)) .nil)))) (.or (.not (.call "_law_independent" (.cons (.v 6) .nil))) (.not (.call "_law_fine" (.dr 1 (.cons (.v 6) .nil)))))) (.cons (.ret (.bl false))
    .nil) .nil)
    (.cons (.set 10 (.tup (.cons (.v 5) (.cons (.bi .tuple (.cons (.comp [("one", 11)] (.cut (.v 11) .no (.so (.bin .Add (.int 1) (.call "_law_take" (.dr 1 (.cons (.v 5) .nil)))))) (.n 11) (.seq (.sub (.v 6) (.int 1))) .no) .nil)) .nil))))
    (.cons (.ife (.and (.cmp .Eq (.setlen (.comp [("one", 11)] (.bi .len (.cons (.v 11) .nil)) (.n 11) (.seq (.sub (.v 10) (.int 1))) .no)) (.int 1)) (.not (.call "_law_fine" (.dr 1 (.cons (.v 10) .nil))))) (.cons (.ret (.bl false))
    .nil) .nil)
    .nil))))) .nil)
    (.cons (.set 11 (.tup (.cons (.int 0) .nil)))
    (.cons (.set 12 (.lst (.cons (.tup (.cons (.int 0) (.cons (.tup (.cons (.v 11) .nil)) .nil))) (.cons (.tup (.cons (.int 7) (.cons (.tup (.cons (.v 11) .nil)) .nil))) (.cons (.tup (.cons (.int 1) (.cons (.tup .nil) .nil))) (.cons (.tup (.cons (.int 1) (.cons (.tup (.cons (.tup .nil) .nil)) .nil))) (.cons (.tup (.cons (.int 1) (.cons (.tup (.cons (.tup (.cons (.int 1) .nil)) .nil)) .nil))) (.cons (.tup (.cons (.int 1) (.cons (.tup (.cons (.v 11) (.cons (.tup (.cons (.int 0) (.cons (.int 0) .nil))) .nil))) .nil))) (.cons (.tup (.cons (.int 1) (.cons (.bin .Mult (.tup (.cons (.v 11) .nil)) (.int 31)) .nil))) (.cons (.tup (.cons (.int 1) (.cons (.tup (.cons (.bin .Mult (.tup (.cons (.int 0) .nil)) (.int 9)) .nil)) .nil))) (.cons .non (.cons (.tup (.cons (.int 1) (.cons (.lst (.cons (.v 11) .nil)) .nil))) (.cons (.tup (.cons (.bl true) (.cons (.tup (.cons (.v 11) .nil)) .nil))) (.cons (.tup (.cons (.int 1) (.cons (.tup (.cons (.tup (.cons (.bl false) .nil)) .nil)) .nil))) (.cons (.tup (.cons (.int 1) .nil)) .nil)))))))))))))))
    (.cons (.ret (.and (.cmp .Eq (.comp [("bad", 15)] (.v 15) (.n 15) (.seq (.v 12)) (.so (.not (.call "_law_refused" (.cons (.v 15) .nil))))) (.lst .nil)) (.not (.call "_law_refused" (.cons (.tup (.cons (.int 6) (.cons (.bin .Mult (.tup (.cons (.bin .Mult (.tup (.cons (.int 5) .nil)) (.int 8)) .nil)) (.int 30)) .nil))) .nil)))))
    .nil)))))))))))⟩
end DL

set_option Elab.async false
set_option linter.all false
set_option maxRecDepth 100000
set_option maxHeartbeats 4000000
namespace DL
open PySem PySem.Spec PyProof.Rows L2
/-! ### ratios as data -/
def qD (q : Rat) : D := .tuple [.int q.num, .int q.den]
/-- |i| < 2^n -/
def Bd (n : Nat) (i : Int) : Prop := i.natAbs < 2 ^ n
theorem Bd.mono {m n : Nat} {i : Int} (h : Bd m i) (l : m ≤ n) : Bd n i := Nat.lt_of_lt_of_le h (Nat.pow_le_pow_right (by decide) l)
theorem Bd.mul {m n : Nat} {i j : Int} (h : Bd m i) (k : Bd n j) : Bd (m + n) (i * j) := by
  unfold Bd at *
  rw [Int.natAbs_mul, Nat.pow_add]
  exact Nat.mul_lt_mul'' h k
theorem Bd.add {m n : Nat} {i j : Int} (h : Bd m i) (k : Bd n j) (p : Nat) (hm : m < p) (hn : n < p) : Bd p (i + j) := by
  have h := h.mono (show m ≤ p - 1 by omega)
  have k := k.mono (show n ≤ p - 1 by omega)
  unfold Bd at *
  have e : 2 ^ p = 2 ^ (p - 1) + 2 ^ (p - 1) := by
    rw [show p = (p - 1) + 1 by omega, Nat.pow_succ]
    simp
    omega
  have := Int.natAbs_add_le i j
  omega
theorem Bd.neg {n : Nat} {i : Int} (h : Bd n i) : Bd n (-i) := by
  unfold Bd at *
  rw [Int.natAbs_neg]
  exact h
theorem Bd.sub {m n : Nat} {i j : Int} (h : Bd m i) (k : Bd n j) (p : Nat) (hm : m < p) (hn : n < p) : Bd p (i - j) := by
  rw [Int.sub_eq_add_neg]
  exact h.add k.neg p hm hn
theorem Bd.log {n : Nat} {i : Int} (h : Bd n i) : i.natAbs.log2 ≤ n := by
  by_cases e : i.natAbs = 0
  · rw [e]
    have : Nat.log2 0 = 0 := by decide
    omega
  · exact Nat.le_of_lt ((Nat.log2_lt e).mpr h)
theorem Bd.le {n : Nat} {i j : Int} (h : Bd n i) (l : j.natAbs ≤ i.natAbs) : Bd n j := Nat.lt_of_le_of_lt l h
theorem Bd.of {n : Nat} {i : Int} (h : i.natAbs < 2 ^ n) : Bd n i := h
theorem Bd.mulOk {m n : Nat} {i j : Int} (h : Bd m i) (k : Bd n j) (l : m + n < 1000000) : dMulOk i j := by
  have := h.log
  have := k.log
  unfold dMulOk
  omega
theorem Bd.divOk {n : Nat} {j : Int} (h : Bd n j) (l : n < 9000) (z : j ≠ 0) : dDivOk j := ⟨z, Nat.lt_of_le_of_lt h.log l⟩
structure Sz (n : Nat) (q : Rat) : Prop where
  num : Bd n q.num
  den : Bd n q.den
theorem Sz.mono {m n : Nat} {q : Rat} (h : Sz m q) (l : m ≤ n) : Sz n q := ⟨h.num.mono l, h.den.mono l⟩
theorem den_ne (q : Rat) : (q.den : Int) ≠ 0 := by
  have := q.den_nz
  omega
theorem den_pos (q : Rat) : (0 : Int) < q.den := by
  have := q.den_nz
  omega
/-- the parts of a ratio made of two numbers are no greater -/
theorem divInt_le {a b : Int} (hb : b ≠ 0) : (Rat.divInt a b).num.natAbs ≤ a.natAbs ∧ ((Rat.divInt a b).den : Int).natAbs ≤ b.natAbs := by
  refine ⟨?_, ?_⟩
  · rw [Rat.num_divInt]
    refine Nat.le_trans (Int.natAbs_ediv_le_natAbs _ _) ?_
    rw [Int.natAbs_mul, Int.natAbs_sign_of_ne_zero hb, Nat.one_mul]
    exact Nat.le_refl _
  · rw [Rat.den_divInt, if_neg hb]
    exact Nat.div_le_self _ _
theorem Sz.divInt {m n p : Nat} {a b : Int} (ha : Bd m a) (hb : Bd n b) (z : b ≠ 0) (hm : m ≤ p) (hn : n ≤ p) : Sz p (Rat.divInt a b) := by
  obtain ⟨h1, h2⟩ := divInt_le (a := a) z
  exact ⟨(ha.le h1).mono hm, (hb.le h2).mono hn⟩
theorem add_eq (p q : Rat) : p + q = Rat.divInt (p.num * q.den + q.num * p.den) (p.den * q.den) := by
  rw [Rat.add_def', ← Rat.divInt_ofNat]
  simp
theorem sub_eq (p q : Rat) : p - q = Rat.divInt (p.num * q.den - q.num * p.den) (p.den * q.den) := by
  rw [Rat.sub_def', ← Rat.divInt_ofNat]
  simp
theorem mul_eq (p q : Rat) : p * q = Rat.divInt (p.num * q.num) (p.den * q.den) := by
  rw [Rat.mul_def', ← Rat.divInt_ofNat]
  simp
theorem mul_ne {i j : Int} (h : i ≠ 0) (k : j ≠ 0) : i * j ≠ 0 := Int.mul_ne_zero h k
theorem Sz.add {m n p : Nat} {x y : Rat} (h : Sz m x) (k : Sz n y) (l : m + n < p) : Sz p (x + y) := by
  rw [add_eq]
  exact Sz.divInt ((h.num.mul k.den).add (k.num.mul h.den) p (by omega) (by omega)) (h.den.mul k.den) (mul_ne (den_ne _) (den_ne _)) (Nat.le_refl _) (by omega)
theorem Sz.sub {m n p : Nat} {x y : Rat} (h : Sz m x) (k : Sz n y) (l : m + n < p) : Sz p (x - y) := by
  rw [sub_eq]
  exact Sz.divInt ((h.num.mul k.den).sub (k.num.mul h.den) p (by omega) (by omega)) (h.den.mul k.den) (mul_ne (den_ne _) (den_ne _)) (Nat.le_refl _) (by omega)
theorem Sz.mul {m n p : Nat} {x y : Rat} (h : Sz m x) (k : Sz n y) (l : m + n ≤ p) : Sz p (x * y) := by
  rw [mul_eq]
  exact Sz.divInt (h.num.mul k.num) (h.den.mul k.den) (mul_ne (den_ne _) (den_ne _)) l l
theorem Sz.neg {n : Nat} {x : Rat} (h : Sz n x) : Sz n (-x) := ⟨h.num.neg, h.den⟩
theorem Sz.zero : Sz 1 0 := ⟨show (0 : Int).natAbs < 2 by decide, show (1 : Int).natAbs < 2 by decide⟩
theorem Sz.one : Sz 1 1 := ⟨show (1 : Int).natAbs < 2 by decide, show (1 : Int).natAbs < 2 by decide⟩
/-! ### lowest and the ratios' sums and products -/
def φ_lowest : Phi := fun as P _ => ∃ (a b : Int) (n : Nat), as = [.fz (.int a), .fz (.int b)] ∧ b ≠ 0 ∧ Bd n b ∧ n < 9000 ∧ P (qD (Rat.divInt a b))
def wpset : Unit := ()
theorem fdiv_gcd {a b : Int} {g : Nat} (hg : (g : Int) ∣ a) (h0 : 0 < g) : a.fdiv g = a / g := by
  rw [Int.fdiv_eq_ediv_of_nonneg _ (by omega)]
theorem lowest_eq {a b : Int} (h : b ≠ 0) : (if b < 0 then (PyData.tuple [.int (a.fdiv (-(a.natAbs.gcd b.natAbs : Nat))), .int (b.fdiv (-(a.natAbs.gcd b.natAbs : Nat)))]) else .tuple [.int (a.fdiv (a.natAbs.gcd b.natAbs : Nat)), .int (b.fdiv (a.natAbs.gcd b.natAbs : Nat))]) = qD (Rat.divInt a b) := by
  have g0 : 0 < a.natAbs.gcd b.natAbs := Nat.gcd_pos_of_pos_right _ (by omega)
  have ga : ((a.natAbs.gcd b.natAbs : Nat) : Int) ∣ a := Int.ofNat_dvd_left.mpr (Nat.gcd_dvd_left _ _)
  have gb : ((a.natAbs.gcd b.natAbs : Nat) : Int) ∣ b := Int.ofNat_dvd_left.mpr (Nat.gcd_dvd_right _ _)
  have e : (b.gcd a : Nat) = a.natAbs.gcd b.natAbs := by
    show b.natAbs.gcd a.natAbs = _
    exact Nat.gcd_comm _ _
  have hn : (Rat.divInt a b).num = b.sign * a / (a.natAbs.gcd b.natAbs : Nat) := by rw [Rat.num_divInt, e]
  have hd : (Rat.divInt a b).den = b.natAbs / a.natAbs.gcd b.natAbs := by rw [Rat.den_divInt, if_neg h, e]
  generalize a.natAbs.gcd b.natAbs = g at *
  unfold qD
  obtain ⟨x, hx⟩ := ga
  obtain ⟨y, hy⟩ := gb
  have gp : (0 : Int) < g := by omega
  by_cases hb : b < 0
  · rw [if_pos hb, hn, hd]
    have s : b.sign = -1 := Int.sign_eq_neg_one_of_neg hb
    have e1 : a.fdiv (-(g : Int)) = b.sign * a / g := by
      rw [s, hx, show (g : Int) * x = (-(g : Int)) * (-x) by rw [Int.neg_mul_neg], Int.mul_fdiv_cancel_left _ (by omega)]
      rw [show -1 * (-(g : Int) * -x) = g * -x by rw [Int.neg_mul_neg, Int.mul_neg, Int.neg_mul, Int.one_mul], Int.mul_ediv_cancel_left _ (by omega)]
    have e2 : b.fdiv (-(g : Int)) = ((b.natAbs / g : Nat) : Int) := by
      rw [Int.natCast_ediv, Int.ofNat_natAbs_of_nonpos (by omega), hy, show (g : Int) * y = (-(g : Int)) * (-y) by rw [Int.neg_mul_neg], Int.mul_fdiv_cancel_left _ (by omega)]
      rw [show -(-(g : Int) * -y) = g * -y by rw [Int.neg_mul_neg, Int.mul_neg], Int.mul_ediv_cancel_left _ (by omega)]
    rw [e1, e2]
  · rw [if_neg hb, hn, hd]
    have s : b.sign = 1 := Int.sign_eq_one_of_pos (by omega)
    have e1 : a.fdiv (g : Int) = b.sign * a / g := by rw [s, Int.one_mul, Int.fdiv_eq_ediv_of_nonneg _ (by omega)]
    have e2 : b.fdiv (g : Int) = ((b.natAbs / g : Nat) : Int) := by
      rw [Int.natCast_ediv, Int.natAbs_of_nonneg (by omega), Int.fdiv_eq_ediv_of_nonneg _ (by omega)]
    rw [e1, e2]
end DL

set_option Elab.async false
set_option linter.all false
set_option maxRecDepth 100000
set_option maxHeartbeats 4000000
namespace DL
open PySem PySem.Spec PyProof.Rows L2
theorem imp_lowest {Γ : Gam} (as : List Sl) (P : D → Prop) (PE : Str → Prop) (h : φ_lowest as P PE) : spW Γ d_lowest as P PE := by
  obtain ⟨a, b, n, rfl, hb, bd, hn, hP⟩ := h
  refine ⟨rfl, ?_⟩
  have g0 : 0 < a.natAbs.gcd b.natAbs := Nat.gcd_pos_of_pos_right _ (by omega)
  have gl : a.natAbs.gcd b.natAbs ≤ b.natAbs := Nat.le_of_dvd (by omega) (Nat.gcd_dvd_right _ _)
  have e := lowest_eq (a := a) hb
  simp only [d_lowest, true_and, wpSs, wpS, wpE, wpX, wpO, wpC, wpI, ent, kt0, bindT, bindTs, tgsLen, wipeR, constD, owL, List.map_cons, List.map_nil, List.length_cons, List.length_nil, List.replicate, List.cons_append, List.nil_append, Nat.reduceSub, Nat.reduceAdd, List.getElem?_cons_zero, List.getElem?_cons_succ, List.getElem?_nil, List.set_cons_zero, List.set_cons_succ, opF, cmpF, Bi.fd, Option.map_some, if_true, if_false, Bool.true_eq_false, Bool.false_eq_true, reduceIte, Bool.not_true, Bool.not_false, w_some, w_none, w_fz0, w_fz1, w_t0, w_t1, w_t2, w_t3, w_t4, w_add, w_addL, w_addT, w_sub, w_subB, w_mul, w_mulL, w_mulT, w_mod, w_div, w_lt, w_le, w_gt, w_ge, w_is, w_isnt, w_n0, w_n1, w_n2, w_n3, w_n4, w_neg, w_atL, w_atT, w_lenL, w_lenT, w_tupL, w_tupT, w_lisL, w_lisT, w_abs, w_int, w_intB, w_gcd, w_min, w_max, w_seqL, w_seqT, w_augA, w_augS, w_augM, w_intQ, w_lstQ, w_rng1, w_rng2, w_zipL, w_zipT, w_enum]
  have bg : Bd n ((a.natAbs.gcd b.natAbs : Nat) : Int) := bd.le (by simpa using gl)
  have ok1 : dDivOk ((a.natAbs.gcd b.natAbs : Nat) : Int) := bg.divOk hn (by omega)
  have ok2 : dDivOk (-((a.natAbs.gcd b.natAbs : Nat) : Int)) := bg.neg.divOk hn (by omega)
  by_cases hlt : b < 0
  · rw [if_pos hlt] at e
    rw [decide_eq_true hlt]
    simp only [true_and, wpSs, wpS, wpE, wpX, wpO, wpC, wpI, ent, kt0, bindT, bindTs, tgsLen, wipeR, constD, owL, List.map_cons, List.map_nil, List.length_cons, List.length_nil, List.replicate, List.cons_append, List.nil_append, Nat.reduceSub, Nat.reduceAdd, List.getElem?_cons_zero, List.getElem?_cons_succ, List.getElem?_nil, List.set_cons_zero, List.set_cons_succ, opF, cmpF, Bi.fd, Option.map_some, if_true, if_false, Bool.true_eq_false, Bool.false_eq_true, reduceIte, Bool.not_true, Bool.not_false, w_some, w_none, w_fz0, w_fz1, w_t0, w_t1, w_t2, w_t3, w_t4, w_add, w_addL, w_addT, w_sub, w_subB, w_mul, w_mulL, w_mulT, w_mod, w_div, w_lt, w_le, w_gt, w_ge, w_is, w_isnt, w_n0, w_n1, w_n2, w_n3, w_n4, w_neg, w_atL, w_atT, w_lenL, w_lenT, w_tupL, w_tupT, w_lisL, w_lisT, w_abs, w_int, w_intB, w_gcd, w_min, w_max, w_seqL, w_seqT, w_augA, w_augS, w_augM, w_intQ, w_lstQ, w_rng1, w_rng2, w_zipL, w_zipT, w_enum]
    exact ⟨ok2, ok2, by rw [e]; exact hP⟩
  · rw [if_neg hlt] at e
    rw [decide_eq_false hlt]
    simp only [true_and, wpSs, wpS, wpE, wpX, wpO, wpC, wpI, ent, kt0, bindT, bindTs, tgsLen, wipeR, constD, owL, List.map_cons, List.map_nil, List.length_cons, List.length_nil, List.replicate, List.cons_append, List.nil_append, Nat.reduceSub, Nat.reduceAdd, List.getElem?_cons_zero, List.getElem?_cons_succ, List.getElem?_nil, List.set_cons_zero, List.set_cons_succ, opF, cmpF, Bi.fd, Option.map_some, if_true, if_false, Bool.true_eq_false, Bool.false_eq_true, reduceIte, Bool.not_true, Bool.not_false, w_some, w_none, w_fz0, w_fz1, w_t0, w_t1, w_t2, w_t3, w_t4, w_add, w_addL, w_addT, w_sub, w_subB, w_mul, w_mulL, w_mulT, w_mod, w_div, w_lt, w_le, w_gt, w_ge, w_is, w_isnt, w_n0, w_n1, w_n2, w_n3, w_n4, w_neg, w_atL, w_atT, w_lenL, w_lenT, w_tupL, w_tupT, w_lisL, w_lisT, w_abs, w_int, w_intB, w_gcd, w_min, w_max, w_seqL, w_seqT, w_augA, w_augS, w_augM, w_intQ, w_lstQ, w_rng1, w_rng2, w_zipL, w_zipT, w_enum]
    exact ⟨ok1, ok1, by rw [e]; exact hP⟩
theorem atI0 {α : Type} (x : α) (xs : List α) : atI (x :: xs) 0 = some x := by
  rw [show (0 : Int) = ((0 : Nat) : Int) from rfl]
  exact atI_nat rfl
theorem atI1 {α : Type} (x y : α) (xs : List α) : atI (x :: y :: xs) 1 = some y := by
  rw [show (1 : Int) = ((1 : Nat) : Int) from rfl]
  exact atI_nat rfl
theorem atI2 {α : Type} (x y z : α) (xs : List α) : atI (x :: y :: z :: xs) 2 = some z := by
  rw [show (2 : Int) = ((2 : Nat) : Int) from rfl]
  exact atI_nat rfl
/-- two ratios of so many binary digits in all -/
def φ2 (f : Rat → Rat → Rat) : Phi := fun as P _ => ∃ (p q : Rat) (m n : Nat), as = [.fz (qD p), .fz (qD q)] ∧ Sz m p ∧ Sz n q ∧ m + n < 8000 ∧ P (qD (f p q))
abbrev φ_plus : Phi := φ2 (· + ·)
abbrev φ_minus : Phi := φ2 (· - ·)
abbrev φ_times : Phi := φ2 (· * ·)
theorem imp_plus {Γ : Gam} (e : Γ.Φ "lowest" = φ_lowest) (as : List Sl) (P : D → Prop) (PE : Str → Prop) (h : φ_plus as P PE) : spW Γ d_plus as P PE := by
  obtain ⟨p, q, m, n, rfl, hp, hq, hl, hP⟩ := h
  refine ⟨rfl, ?_⟩
  simp only [d_plus, qD, true_and, wpSs, wpS, wpE, wpX, wpO, wpC, wpI, ent, kt0, bindT, bindTs, tgsLen, wipeR, constD, owL, List.map_cons, List.map_nil, List.length_cons, List.length_nil, List.replicate, List.cons_append, List.nil_append, Nat.reduceSub, Nat.reduceAdd, List.getElem?_cons_zero, List.getElem?_cons_succ, List.getElem?_nil, List.set_cons_zero, List.set_cons_succ, opF, cmpF, Bi.fd, Option.map_some, if_true, if_false, Bool.true_eq_false, Bool.false_eq_true, reduceIte, Bool.not_true, Bool.not_false, w_some, w_none, w_fz0, w_fz1, w_t0, w_t1, w_t2, w_t3, w_t4, w_add, w_addL, w_addT, w_sub, w_subB, w_mul, w_mulL, w_mulT, w_mod, w_div, w_lt, w_le, w_gt, w_ge, w_is, w_isnt, w_n0, w_n1, w_n2, w_n3, w_n4, w_neg, w_atL, w_atT, w_lenL, w_lenT, w_tupL, w_tupT, w_lisL, w_lisT, w_abs, w_int, w_intB, w_gcd, w_min, w_max, w_seqL, w_seqT, w_augA, w_augS, w_augM, w_intQ, w_lstQ, w_rng1, w_rng2, w_zipL, w_zipT, w_enum, atI0, atI1]
  have k1 := hp.num.mulOk hq.den (by omega)
  have k2 := hq.num.mulOk hp.den (by omega)
  have k3 := hp.den.mulOk hq.den (by omega)
  refine ⟨k1, k2, k3, ?_⟩
  rw [e]
  exact ⟨_, _, _, rfl, mul_ne (den_ne _) (den_ne _), hp.den.mul hq.den, by omega, by rw [← add_eq]; exact hP⟩
theorem imp_minus {Γ : Gam} (e : Γ.Φ "lowest" = φ_lowest) (as : List Sl) (P : D → Prop) (PE : Str → Prop) (h : φ_minus as P PE) : spW Γ d_minus as P PE := by
  obtain ⟨p, q, m, n, rfl, hp, hq, hl, hP⟩ := h
  refine ⟨rfl, ?_⟩
  simp only [d_minus, qD, true_and, wpSs, wpS, wpE, wpX, wpO, wpC, wpI, ent, kt0, bindT, bindTs, tgsLen, wipeR, constD, owL, List.map_cons, List.map_nil, List.length_cons, List.length_nil, List.replicate, List.cons_append, List.nil_append, Nat.reduceSub, Nat.reduceAdd, List.getElem?_cons_zero, List.getElem?_cons_succ, List.getElem?_nil, List.set_cons_zero, List.set_cons_succ, opF, cmpF, Bi.fd, Option.map_some, if_true, if_false, Bool.true_eq_false, Bool.false_eq_true, reduceIte, Bool.not_true, Bool.not_false, w_some, w_none, w_fz0, w_fz1, w_t0, w_t1, w_t2, w_t3, w_t4, w_add, w_addL, w_addT, w_sub, w_subB, w_mul, w_mulL, w_mulT, w_mod, w_div, w_lt, w_le, w_gt, w_ge, w_is, w_isnt, w_n0, w_n1, w_n2, w_n3, w_n4, w_neg, w_atL, w_atT, w_lenL, w_lenT, w_tupL, w_tupT, w_lisL, w_lisT, w_abs, w_int, w_intB, w_gcd, w_min, w_max, w_seqL, w_seqT, w_augA, w_augS, w_augM, w_intQ, w_lstQ, w_rng1, w_rng2, w_zipL, w_zipT, w_enum, atI0, atI1]
  have k1 := hp.num.mulOk hq.den (by omega)
  have k2 := hq.num.mulOk hp.den (by omega)
  have k3 := hp.den.mulOk hq.den (by omega)
  refine ⟨k1, k2, k3, ?_⟩
  rw [e]
  exact ⟨_, _, _, rfl, mul_ne (den_ne _) (den_ne _), hp.den.mul hq.den, by omega, by rw [← sub_eq]; exact hP⟩
theorem imp_times {Γ : Gam} (e : Γ.Φ "lowest" = φ_lowest) (as : List Sl) (P : D → Prop) (PE : Str → Prop) (h : φ_times as P PE) : spW Γ d_times as P PE := by
  obtain ⟨p, q, m, n, rfl, hp, hq, hl, hP⟩ := h
  refine ⟨rfl, ?_⟩
  simp only [d_times, qD, true_and, wpSs, wpS, wpE, wpX, wpO, wpC, wpI, ent, kt0, bindT, bindTs, tgsLen, wipeR, constD, owL, List.map_cons, List.map_nil, List.length_cons, List.length_nil, List.replicate, List.cons_append, List.nil_append, Nat.reduceSub, Nat.reduceAdd, List.getElem?_cons_zero, List.getElem?_cons_succ, List.getElem?_nil, List.set_cons_zero, List.set_cons_succ, opF, cmpF, Bi.fd, Option.map_some, if_true, if_false, Bool.true_eq_false, Bool.false_eq_true, reduceIte, Bool.not_true, Bool.not_false, w_some, w_none, w_fz0, w_fz1, w_t0, w_t1, w_t2, w_t3, w_t4, w_add, w_addL, w_addT, w_sub, w_subB, w_mul, w_mulL, w_mulT, w_mod, w_div, w_lt, w_le, w_gt, w_ge, w_is, w_isnt, w_n0, w_n1, w_n2, w_n3, w_n4, w_neg, w_atL, w_atT, w_lenL, w_lenT, w_tupL, w_tupT, w_lisL, w_lisT, w_abs, w_int, w_intB, w_gcd, w_min, w_max, w_seqL, w_seqT, w_augA, w_augS, w_augM, w_intQ, w_lstQ, w_rng1, w_rng2, w_zipL, w_zipT, w_enum, atI0, atI1]
  have k1 := hp.num.mulOk hq.num (by omega)
  have k3 := hp.den.mulOk hq.den (by omega)
  refine ⟨k1, k3, ?_⟩
  rw [e]
  exact ⟨_, _, _, rfl, mul_ne (den_ne _) (den_ne _), hp.den.mul hq.den, by omega, by rw [← mul_eq]; exact hP⟩
/-! signs -/
def sgn (i : Int) : Int := if 0 < i then 1 else if i < 0 then -1 else 0
def φ_sign_of : Phi := fun as P _ => ∃ i : Int, as = [.fz (.int i)] ∧ P (.int (sgn i))
theorem imp_sign_of {Γ : Gam} (as : List Sl) (P : D → Prop) (PE : Str → Prop) (h : φ_sign_of as P PE) : spW Γ d_sign_of as P PE := by
  obtain ⟨i, rfl, hP⟩ := h
  refine ⟨rfl, ?_⟩
  simp only [d_sign_of, true_and, wpSs, wpS, wpE, wpX, wpO, wpC, wpI, ent, kt0, bindT, bindTs, tgsLen, wipeR, constD, owL, List.map_cons, List.map_nil, List.length_cons, List.length_nil, List.replicate, List.cons_append, List.nil_append, Nat.reduceSub, Nat.reduceAdd, List.getElem?_cons_zero, List.getElem?_cons_succ, List.getElem?_nil, List.set_cons_zero, List.set_cons_succ, opF, cmpF, Bi.fd, Option.map_some, if_true, if_false, Bool.true_eq_false, Bool.false_eq_true, reduceIte, Bool.not_true, Bool.not_false, w_some, w_none, w_fz0, w_fz1, w_t0, w_t1, w_t2, w_t3, w_t4, w_add, w_addL, w_addT, w_sub, w_subB, w_mul, w_mulL, w_mulT, w_mod, w_div, w_lt, w_le, w_gt, w_ge, w_is, w_isnt, w_n0, w_n1, w_n2, w_n3, w_n4, w_neg, w_atL, w_atT, w_lenL, w_lenT, w_tupL, w_tupT, w_lisL, w_lisT, w_abs, w_int, w_intB, w_gcd, w_min, w_max, w_seqL, w_seqT, w_augA, w_augS, w_augM, w_intQ, w_lstQ, w_rng1, w_rng2, w_zipL, w_zipT, w_enum]
  have e : PyProof.Rows.b2i (decide (0 < i)) - PyProof.Rows.b2i (decide (i < 0)) = sgn i := by
    unfold sgn PyProof.Rows.b2i
    by_cases h1 : 0 < i
    · simp [h1, show ¬ i < 0 by omega]
    · by_cases h2 : i < 0
      · simp [h1, h2]
      · simp [h1, h2]
  rw [e]
  exact hP
def cmpQ (p q : Rat) : Int := if q < p then 1 else if p < q then -1 else 0
theorem sgn_cmp (p q : Rat) : sgn (p.num * q.den - q.num * p.den) = cmpQ p q := by
  unfold sgn cmpQ
  have h1 : (0 < p.num * q.den - q.num * p.den) ↔ q < p := by rw [Rat.lt_iff]; omega
  have h2 : (p.num * q.den - q.num * p.den < 0) ↔ p < q := by rw [Rat.lt_iff]; omega
  simp only [h1, h2]
def φ_compare : Phi := fun as P _ => ∃ (p q : Rat) (m n : Nat), as = [.fz (qD p), .fz (qD q)] ∧ Sz m p ∧ Sz n q ∧ m + n < 8000 ∧ P (.int (cmpQ p q))
theorem imp_compare {Γ : Gam} (e : Γ.Φ "sign_of" = φ_sign_of) (as : List Sl) (P : D → Prop) (PE : Str → Prop) (h : φ_compare as P PE) : spW Γ d_compare as P PE := by
  obtain ⟨p, q, m, n, rfl, hp, hq, hl, hP⟩ := h
  refine ⟨rfl, ?_⟩
  simp only [d_compare, qD, true_and, wpSs, wpS, wpE, wpX, wpO, wpC, wpI, ent, kt0, bindT, bindTs, tgsLen, wipeR, constD, owL, List.map_cons, List.map_nil, List.length_cons, List.length_nil, List.replicate, List.cons_append, List.nil_append, Nat.reduceSub, Nat.reduceAdd, List.getElem?_cons_zero, List.getElem?_cons_succ, List.getElem?_nil, List.set_cons_zero, List.set_cons_succ, opF, cmpF, Bi.fd, Option.map_some, if_true, if_false, Bool.true_eq_false, Bool.false_eq_true, reduceIte, Bool.not_true, Bool.not_false, w_some, w_none, w_fz0, w_fz1, w_t0, w_t1, w_t2, w_t3, w_t4, w_add, w_addL, w_addT, w_sub, w_subB, w_mul, w_mulL, w_mulT, w_mod, w_div, w_lt, w_le, w_gt, w_ge, w_is, w_isnt, w_n0, w_n1, w_n2, w_n3, w_n4, w_neg, w_atL, w_atT, w_lenL, w_lenT, w_tupL, w_tupT, w_lisL, w_lisT, w_abs, w_int, w_intB, w_gcd, w_min, w_max, w_seqL, w_seqT, w_augA, w_augS, w_augM, w_intQ, w_lstQ, w_rng1, w_rng2, w_zipL, w_zipT, w_enum, atI0, atI1]
  refine ⟨hp.num.mulOk hq.den (by omega), hq.num.mulOk hp.den (by omega), ?_⟩
  rw [e]
  exact ⟨_, rfl, by rw [sgn_cmp]; exact hP⟩
def φ_lesser : Phi := fun as P _ => ∃ (p q : Rat) (m n : Nat), as = [.fz (qD p), .fz (qD q)] ∧ Sz m p ∧ Sz n q ∧ m + n < 8000 ∧ P (qD (if p ≤ q then p else q))
theorem cmpQ_le {p q : Rat} : cmpQ p q ≤ 0 ↔ p ≤ q := by
  unfold cmpQ
  by_cases h1 : q < p
  · rw [if_pos h1]
    have : ¬ p ≤ q := by rw [Rat.not_le]; exact h1
    simp [this]
  · rw [if_neg h1]
    have : p ≤ q := Rat.not_lt.mp h1
    simp only [this, iff_true]
    split <;> omega
theorem imp_lesser {Γ : Gam} (e : Γ.Φ "compare" = φ_compare) (as : List Sl) (P : D → Prop) (PE : Str → Prop) (h : φ_lesser as P PE) : spW Γ d_lesser as P PE := by
  obtain ⟨p, q, m, n, rfl, hp, hq, hl, hP⟩ := h
  refine ⟨rfl, ?_⟩
  simp only [d_lesser, true_and, wpSs, wpS, wpE, wpX, wpO, wpC, wpI, ent, kt0, bindT, bindTs, tgsLen, wipeR, constD, owL, List.map_cons, List.map_nil, List.length_cons, List.length_nil, List.replicate, List.cons_append, List.nil_append, Nat.reduceSub, Nat.reduceAdd, List.getElem?_cons_zero, List.getElem?_cons_succ, List.getElem?_nil, List.set_cons_zero, List.set_cons_succ, opF, cmpF, Bi.fd, Option.map_some, if_true, if_false, Bool.true_eq_false, Bool.false_eq_true, reduceIte, Bool.not_true, Bool.not_false, w_some, w_none, w_fz0, w_fz1, w_t0, w_t1, w_t2, w_t3, w_t4, w_add, w_addL, w_addT, w_sub, w_subB, w_mul, w_mulL, w_mulT, w_mod, w_div, w_lt, w_le, w_gt, w_ge, w_is, w_isnt, w_n0, w_n1, w_n2, w_n3, w_n4, w_neg, w_atL, w_atT, w_lenL, w_lenT, w_tupL, w_tupT, w_lisL, w_lisT, w_abs, w_int, w_intB, w_gcd, w_min, w_max, w_seqL, w_seqT, w_augA, w_augS, w_augM, w_intQ, w_lstQ, w_rng1, w_rng2, w_zipL, w_zipT, w_enum]
  rw [e]
  refine ⟨p, q, m, n, rfl, hp, hq, hl, ?_⟩
  simp only [true_and, wpSs, wpS, wpE, wpX, wpO, wpC, wpI, ent, kt0, bindT, bindTs, tgsLen, wipeR, constD, owL, List.map_cons, List.map_nil, List.length_cons, List.length_nil, List.replicate, List.cons_append, List.nil_append, Nat.reduceSub, Nat.reduceAdd, List.getElem?_cons_zero, List.getElem?_cons_succ, List.getElem?_nil, List.set_cons_zero, List.set_cons_succ, opF, cmpF, Bi.fd, Option.map_some, if_true, if_false, Bool.true_eq_false, Bool.false_eq_true, reduceIte, Bool.not_true, Bool.not_false, w_some, w_none, w_fz0, w_fz1, w_t0, w_t1, w_t2, w_t3, w_t4, w_add, w_addL, w_addT, w_sub, w_subB, w_mul, w_mulL, w_mulT, w_mod, w_div, w_lt, w_le, w_gt, w_ge, w_is, w_isnt, w_n0, w_n1, w_n2, w_n3, w_n4, w_neg, w_atL, w_atT, w_lenL, w_lenT, w_tupL, w_tupT, w_lisL, w_lisT, w_abs, w_int, w_intB, w_gcd, w_min, w_max, w_seqL, w_seqT, w_augA, w_augS, w_augM, w_intQ, w_lstQ, w_rng1, w_rng2, w_zipL, w_zipT, w_enum]
  by_cases h1 : p ≤ q
  · rw [if_pos h1] at hP
    rw [decide_eq_true (cmpQ_le.mpr h1)]
    simpa only [true_and, wpSs, wpS, wpE, wpX, wpO, wpC, wpI, ent, kt0, bindT, bindTs, tgsLen, wipeR, constD, owL, List.map_cons, List.map_nil, List.length_cons, List.length_nil, List.replicate, List.cons_append, List.nil_append, Nat.reduceSub, Nat.reduceAdd, List.getElem?_cons_zero, List.getElem?_cons_succ, List.getElem?_nil, List.set_cons_zero, List.set_cons_succ, opF, cmpF, Bi.fd, Option.map_some, if_true, if_false, Bool.true_eq_false, Bool.false_eq_true, reduceIte, Bool.not_true, Bool.not_false, w_some, w_none, w_fz0, w_fz1, w_t0, w_t1, w_t2, w_t3, w_t4, w_add, w_addL, w_addT, w_sub, w_subB, w_mul, w_mulL, w_mulT, w_mod, w_div, w_lt, w_le, w_gt, w_ge, w_is, w_isnt, w_n0, w_n1, w_n2, w_n3, w_n4, w_neg, w_atL, w_atT, w_lenL, w_lenT, w_tupL, w_tupT, w_lisL, w_lisT, w_abs, w_int, w_intB, w_gcd, w_min, w_max, w_seqL, w_seqT, w_augA, w_augS, w_augM, w_intQ, w_lstQ, w_rng1, w_rng2, w_zipL, w_zipT, w_enum] using hP
  · rw [if_neg h1] at hP
    rw [decide_eq_false (fun z => h1 (cmpQ_le.mp z))]
    simpa only [true_and, wpSs, wpS, wpE, wpX, wpO, wpC, wpI, ent, kt0, bindT, bindTs, tgsLen, wipeR, constD, owL, List.map_cons, List.map_nil, List.length_cons, List.length_nil, List.replicate, List.cons_append, List.nil_append, Nat.reduceSub, Nat.reduceAdd, List.getElem?_cons_zero, List.getElem?_cons_succ, List.getElem?_nil, List.set_cons_zero, List.set_cons_succ, opF, cmpF, Bi.fd, Option.map_some, if_true, if_false, Bool.true_eq_false, Bool.false_eq_true, reduceIte, Bool.not_true, Bool.not_false, w_some, w_none, w_fz0, w_fz1, w_t0, w_t1, w_t2, w_t3, w_t4, w_add, w_addL, w_addT, w_sub, w_subB, w_mul, w_mulL, w_mulT, w_mod, w_div, w_lt, w_le, w_gt, w_ge, w_is, w_isnt, w_n0, w_n1, w_n2, w_n3, w_n4, w_neg, w_atL, w_atT, w_lenL, w_lenT, w_tupL, w_tupT, w_lisL, w_lisT, w_abs, w_int, w_intB, w_gcd, w_min, w_max, w_seqL, w_seqT, w_augA, w_augS, w_augM, w_intQ, w_lstQ, w_rng1, w_rng2, w_zipL, w_zipT, w_enum] using hP
end DL

set_option Elab.async false
set_option linter.all false
set_option maxRecDepth 100000
set_option maxHeartbeats 4000000
namespace DL
open PySem PySem.Spec PyProof.Rows L2
/-! ### the law's own ratios -/
def φ__law_lowest : Phi := fun as P _ => ∃ (a b : Int) (m n : Nat), as = [.fz (.int a), .fz (.int b)] ∧ 0 < b ∧ Bd m a ∧ Bd n b ∧ n < 9000 ∧ m < 900000 ∧ P (qD (Rat.divInt a b))
theorem imp__law_lowest {Γ : Gam} (as : List Sl) (P : D → Prop) (PE : Str → Prop) (h : φ__law_lowest as P PE) : spW Γ d__law_lowest as P PE := by
  obtain ⟨a, b, m, n, rfl, hb, ba, bb, hn, hm, hP⟩ := h
  refine ⟨rfl, ?_⟩
  simp only [d__law_lowest, true_and, wpSs, wpS, wpE, wpX, wpO, wpC, wpI, ent, kt0, bindT, bindTs, tgsLen, wipeR, constD, owL, List.map_cons, List.map_nil, List.length_cons, List.length_nil, List.replicate, List.cons_append, List.nil_append, Nat.reduceSub, Nat.reduceAdd, List.getElem?_cons_zero, List.getElem?_cons_succ, List.getElem?_nil, List.set_cons_zero, List.set_cons_succ, opF, cmpF, Bi.fd, Option.map_some, if_true, if_false, Bool.true_eq_false, Bool.false_eq_true, reduceIte, Bool.not_true, Bool.not_false, w_some, w_none, w_fz0, w_fz1, w_t0, w_t1, w_t2, w_t3, w_t4, w_add, w_addL, w_addT, w_sub, w_subB, w_mul, w_mulL, w_mulT, w_mod, w_div, w_lt, w_le, w_gt, w_ge, w_is, w_isnt, w_n0, w_n1, w_n2, w_n3, w_n4, w_neg, w_atL, w_atT, w_lenL, w_lenT, w_tupL, w_tupT, w_lisL, w_lisT, w_abs, w_int, w_intB, w_gcd, w_min, w_max, w_seqL, w_seqT, w_augA, w_augS, w_augM, w_intQ, w_lstQ, w_rng1, w_rng2, w_zipL, w_zipT, w_enum]
  refine ⟨fun k ρ => ∃ c d : Int, ρ = [some (.fz (.int a)), some (.fz (.int b)), some (.fz (.int c)), some (.fz (.int d))] ∧ k = d.toNat ∧ 0 ≤ c ∧ 0 ≤ d ∧ c.natAbs.gcd d.natAbs = a.natAbs.gcd b.natAbs ∧ Bd (max m n) c ∧ Bd n d ∧ (d = 0 → 0 < c), ⟨b.toNat, a.natAbs, b, ?_, rfl, by omega, by omega, by rw [Int.natAbs_natCast], ?_, bb, by omega⟩, ?_⟩
  · have e : (if a < 0 then -a else a) = (a.natAbs : Int) := by split <;> omega
    first
      | rw [e]
      | rfl
  · exact (ba.le (j := (a.natAbs : Int)) (by simp)).mono (Nat.le_max_left _ _)
  · rintro k ρ ⟨c, d, rfl, rfl, c0, d0, hg, bc, bd, hz⟩
    simp only [true_and, wpSs, wpS, wpE, wpX, wpO, wpC, wpI, ent, kt0, bindT, bindTs, tgsLen, wipeR, constD, owL, List.map_cons, List.map_nil, List.length_cons, List.length_nil, List.replicate, List.cons_append, List.nil_append, Nat.reduceSub, Nat.reduceAdd, List.getElem?_cons_zero, List.getElem?_cons_succ, List.getElem?_nil, List.set_cons_zero, List.set_cons_succ, opF, cmpF, Bi.fd, Option.map_some, if_true, if_false, Bool.true_eq_false, Bool.false_eq_true, reduceIte, Bool.not_true, Bool.not_false, w_some, w_none, w_fz0, w_fz1, w_t0, w_t1, w_t2, w_t3, w_t4, w_add, w_addL, w_addT, w_sub, w_subB, w_mul, w_mulL, w_mulT, w_mod, w_div, w_lt, w_le, w_gt, w_ge, w_is, w_isnt, w_n0, w_n1, w_n2, w_n3, w_n4, w_neg, w_atL, w_atT, w_lenL, w_lenT, w_tupL, w_tupT, w_lisL, w_lisT, w_abs, w_int, w_intB, w_gcd, w_min, w_max, w_seqL, w_seqT, w_augA, w_augS, w_augM, w_intQ, w_lstQ, w_rng1, w_rng2, w_zipL, w_zipT, w_enum]
    by_cases hd : d > 0
    · rw [decide_eq_true hd]
      simp only [true_and, wpSs, wpS, wpE, wpX, wpO, wpC, wpI, ent, kt0, bindT, bindTs, tgsLen, wipeR, constD, owL, List.map_cons, List.map_nil, List.length_cons, List.length_nil, List.replicate, List.cons_append, List.nil_append, Nat.reduceSub, Nat.reduceAdd, List.getElem?_cons_zero, List.getElem?_cons_succ, List.getElem?_nil, List.set_cons_zero, List.set_cons_succ, opF, cmpF, Bi.fd, Option.map_some, if_true, if_false, Bool.true_eq_false, Bool.false_eq_true, reduceIte, Bool.not_true, Bool.not_false, w_some, w_none, w_fz0, w_fz1, w_t0, w_t1, w_t2, w_t3, w_t4, w_add, w_addL, w_addT, w_sub, w_subB, w_mul, w_mulL, w_mulT, w_mod, w_div, w_lt, w_le, w_gt, w_ge, w_is, w_isnt, w_n0, w_n1, w_n2, w_n3, w_n4, w_neg, w_atL, w_atT, w_lenL, w_lenT, w_tupL, w_tupT, w_lisL, w_lisT, w_abs, w_int, w_intB, w_gcd, w_min, w_max, w_seqL, w_seqT, w_augA, w_augS, w_augM, w_intQ, w_lstQ, w_rng1, w_rng2, w_zipL, w_zipT, w_enum]
      have bq : Bd (max m n) (c.fdiv d) := by
        rw [Int.fdiv_eq_ediv_of_nonneg _ (by omega)]
        exact bc.le (Int.natAbs_ediv_le_natAbs _ _)
      have em : c - d * (c.fdiv d) = c % d := by
        rw [Int.fdiv_eq_ediv_of_nonneg _ (by omega)]
        have := Int.emod_def c d
        omega
      have r0 := Int.emod_nonneg c (show d ≠ 0 by omega)
      have r1 := Int.emod_lt_of_pos c hd
      refine ⟨bd.divOk hn (by omega), bd.mulOk bq (by omega), (c % d).toNat, by omega, d, c % d, by rw [em], rfl, by omega, r0, ?_, bd.mono (Nat.le_max_right _ _), bd.le (by omega), fun _ => hd⟩
      rw [← hg, Int.natAbs_emod_of_nonneg c0, Nat.gcd_comm d.natAbs, ← Nat.gcd_rec, Nat.gcd_comm]
    · rw [decide_eq_false hd]
      have ed : d = 0 := by omega
      subst ed
      have ec : c = ((a.natAbs.gcd b.natAbs : Nat) : Int) := by
        rw [← hg, Int.natAbs_zero, Nat.gcd_zero_right]
        omega
      have e := lowest_eq (a := a) (b := b) (by omega)
      rw [if_neg (by omega)] at e
      have gl : a.natAbs.gcd b.natAbs ≤ b.natAbs := Nat.le_of_dvd (by omega) (Nat.gcd_dvd_right _ _)
      have ok : dDivOk c := by
        have := hz rfl
        rw [ec] at this ⊢
        exact (bb.le (by simpa using gl)).divOk hn (by omega)
      simp only [true_and, wpSs, wpS, wpE, wpX, wpO, wpC, wpI, ent, kt0, bindT, bindTs, tgsLen, wipeR, constD, owL, List.map_cons, List.map_nil, List.length_cons, List.length_nil, List.replicate, List.cons_append, List.nil_append, Nat.reduceSub, Nat.reduceAdd, List.getElem?_cons_zero, List.getElem?_cons_succ, List.getElem?_nil, List.set_cons_zero, List.set_cons_succ, opF, cmpF, Bi.fd, Option.map_some, if_true, if_false, Bool.true_eq_false, Bool.false_eq_true, reduceIte, Bool.not_true, Bool.not_false, w_some, w_none, w_fz0, w_fz1, w_t0, w_t1, w_t2, w_t3, w_t4, w_add, w_addL, w_addT, w_sub, w_subB, w_mul, w_mulL, w_mulT, w_mod, w_div, w_lt, w_le, w_gt, w_ge, w_is, w_isnt, w_n0, w_n1, w_n2, w_n3, w_n4, w_neg, w_atL, w_atT, w_lenL, w_lenT, w_tupL, w_tupT, w_lisL, w_lisT, w_abs, w_int, w_intB, w_gcd, w_min, w_max, w_seqL, w_seqT, w_augA, w_augS, w_augM, w_intQ, w_lstQ, w_rng1, w_rng2, w_zipL, w_zipT, w_enum]
      refine ⟨ok, ok, ?_⟩
      rw [ec, e]
      exact hP
abbrev φ__law_plus : Phi := φ2 (· + ·)
abbrev φ__law_times : Phi := φ2 (· * ·)
theorem imp__law_plus {Γ : Gam} (e : Γ.Φ "_law_lowest" = φ__law_lowest) (as : List Sl) (P : D → Prop) (PE : Str → Prop) (h : φ__law_plus as P PE) : spW Γ d__law_plus as P PE := by
  obtain ⟨p, q, m, n, rfl, hp, hq, hl, hP⟩ := h
  refine ⟨rfl, ?_⟩
  simp only [d__law_plus, qD, true_and, wpSs, wpS, wpE, wpX, wpO, wpC, wpI, ent, kt0, bindT, bindTs, tgsLen, wipeR, constD, owL, List.map_cons, List.map_nil, List.length_cons, List.length_nil, List.replicate, List.cons_append, List.nil_append, Nat.reduceSub, Nat.reduceAdd, List.getElem?_cons_zero, List.getElem?_cons_succ, List.getElem?_nil, List.set_cons_zero, List.set_cons_succ, opF, cmpF, Bi.fd, Option.map_some, if_true, if_false, Bool.true_eq_false, Bool.false_eq_true, reduceIte, Bool.not_true, Bool.not_false, w_some, w_none, w_fz0, w_fz1, w_t0, w_t1, w_t2, w_t3, w_t4, w_add, w_addL, w_addT, w_sub, w_subB, w_mul, w_mulL, w_mulT, w_mod, w_div, w_lt, w_le, w_gt, w_ge, w_is, w_isnt, w_n0, w_n1, w_n2, w_n3, w_n4, w_neg, w_atL, w_atT, w_lenL, w_lenT, w_tupL, w_tupT, w_lisL, w_lisT, w_abs, w_int, w_intB, w_gcd, w_min, w_max, w_seqL, w_seqT, w_augA, w_augS, w_augM, w_intQ, w_lstQ, w_rng1, w_rng2, w_zipL, w_zipT, w_enum, atI0, atI1]
  refine ⟨hp.num.mulOk hq.den (by omega), hq.num.mulOk hp.den (by omega), hp.den.mulOk hq.den (by omega), ?_⟩
  rw [e]
  exact ⟨_, _, m + n + 1, m + n, rfl, Int.mul_pos (den_pos _) (den_pos _), (hp.num.mul hq.den).add (hq.num.mul hp.den) _ (by omega) (by omega), hp.den.mul hq.den, by omega, by omega, by rw [← add_eq]; exact hP⟩
theorem imp__law_times {Γ : Gam} (e : Γ.Φ "_law_lowest" = φ__law_lowest) (as : List Sl) (P : D → Prop) (PE : Str → Prop) (h : φ__law_times as P PE) : spW Γ d__law_times as P PE := by
  obtain ⟨p, q, m, n, rfl, hp, hq, hl, hP⟩ := h
  refine ⟨rfl, ?_⟩
  simp only [d__law_times, qD, true_and, wpSs, wpS, wpE, wpX, wpO, wpC, wpI, ent, kt0, bindT, bindTs, tgsLen, wipeR, constD, owL, List.map_cons, List.map_nil, List.length_cons, List.length_nil, List.replicate, List.cons_append, List.nil_append, Nat.reduceSub, Nat.reduceAdd, List.getElem?_cons_zero, List.getElem?_cons_succ, List.getElem?_nil, List.set_cons_zero, List.set_cons_succ, opF, cmpF, Bi.fd, Option.map_some, if_true, if_false, Bool.true_eq_false, Bool.false_eq_true, reduceIte, Bool.not_true, Bool.not_false, w_some, w_none, w_fz0, w_fz1, w_t0, w_t1, w_t2, w_t3, w_t4, w_add, w_addL, w_addT, w_sub, w_subB, w_mul, w_mulL, w_mulT, w_mod, w_div, w_lt, w_le, w_gt, w_ge, w_is, w_isnt, w_n0, w_n1, w_n2, w_n3, w_n4, w_neg, w_atL, w_atT, w_lenL, w_lenT, w_tupL, w_tupT, w_lisL, w_lisT, w_abs, w_int, w_intB, w_gcd, w_min, w_max, w_seqL, w_seqT, w_augA, w_augS, w_augM, w_intQ, w_lstQ, w_rng1, w_rng2, w_zipL, w_zipT, w_enum, atI0, atI1]
  refine ⟨hp.num.mulOk hq.num (by omega), hp.den.mulOk hq.den (by omega), ?_⟩
  rw [e]
  exact ⟨_, _, m + n, m + n, rfl, Int.mul_pos (den_pos _) (den_pos _), hp.num.mul hq.num, hp.den.mul hq.den, by omega, by omega, by rw [← mul_eq]; exact hP⟩
/-- _law_less: a pair (i, j) with j above nothing need not be in lowest terms -/
def φ__law_less : Phi := fun as P _ => ∃ (a b c d : Int) (m n : Nat), as = [.fz (.tuple [.int a, .int b]), .fz (.tuple [.int c, .int d])] ∧ Bd m a ∧ Bd m b ∧ Bd n c ∧ Bd n d ∧ m + n < 8000 ∧ P (.bool (decide (a * d < c * b)))
theorem imp__law_less {Γ : Gam} (as : List Sl) (P : D → Prop) (PE : Str → Prop) (h : φ__law_less as P PE) : spW Γ d__law_less as P PE := by
  obtain ⟨a, b, c, d, m, n, rfl, ha, hb, hc, hd, hl, hP⟩ := h
  refine ⟨rfl, ?_⟩
  simp only [d__law_less, qD, true_and, wpSs, wpS, wpE, wpX, wpO, wpC, wpI, ent, kt0, bindT, bindTs, tgsLen, wipeR, constD, owL, List.map_cons, List.map_nil, List.length_cons, List.length_nil, List.replicate, List.cons_append, List.nil_append, Nat.reduceSub, Nat.reduceAdd, List.getElem?_cons_zero, List.getElem?_cons_succ, List.getElem?_nil, List.set_cons_zero, List.set_cons_succ, opF, cmpF, Bi.fd, Option.map_some, if_true, if_false, Bool.true_eq_false, Bool.false_eq_true, reduceIte, Bool.not_true, Bool.not_false, w_some, w_none, w_fz0, w_fz1, w_t0, w_t1, w_t2, w_t3, w_t4, w_add, w_addL, w_addT, w_sub, w_subB, w_mul, w_mulL, w_mulT, w_mod, w_div, w_lt, w_le, w_gt, w_ge, w_is, w_isnt, w_n0, w_n1, w_n2, w_n3, w_n4, w_neg, w_atL, w_atT, w_lenL, w_lenT, w_tupL, w_tupT, w_lisL, w_lisT, w_abs, w_int, w_intB, w_gcd, w_min, w_max, w_seqL, w_seqT, w_augA, w_augS, w_augM, w_intQ, w_lstQ, w_rng1, w_rng2, w_zipL, w_zipT, w_enum, atI0, atI1]
  exact ⟨ha.mulOk hd (by omega), hc.mulOk hb (by omega), hP⟩
/-! ### loops over made lists -/
theorem forW_inv {α : Type} {emb : α → D} {body : D → Rho → (Rho → Prop) → Prop} {Q : Rho → Prop} {l : List α} (I : List α → Rho → Prop) {ρ : Rho} (h0 : I [] ρ)
    (hs : ∀ done x rest ρ kk, l = done ++ x :: rest → I done ρ → (∀ ρ', I (done ++ [x]) ρ' → kk ρ') → body (emb x) ρ kk) (hd : ∀ ρ, I l ρ → Q ρ) : forW body (l.map emb) ρ Q := by
  have key : ∀ (rest done : List α) (ρ : Rho), l = done ++ rest → I done ρ → forW body (rest.map emb) ρ Q := by
    intro rest
    induction rest with
    | nil =>
      intro done ρ e h
      rw [List.append_nil] at e
      subst e
      exact hd ρ h
    | cons x rest ih =>
      intro done ρ e h
      rw [List.map_cons]
      unfold forW
      exact hs done x rest ρ _ e h fun ρ' h' => ih (done ++ [x]) ρ' (by rw [e]; simp) h'
  exact key l [] ρ rfl h0
theorem foldW_inv {α : Type} {emb : α → D} {step : D → List D → (List D → Prop) → Prop} {Q : List D → Prop} {l : List α} (I : List α → List D → Prop) {acc : List D} (h0 : I [] acc)
    (hs : ∀ done x rest acc kk, l = done ++ x :: rest → I done acc → (∀ acc', I (done ++ [x]) acc' → kk acc') → step (emb x) acc kk) (hd : ∀ acc, I l acc → Q acc) : foldW step (l.map emb) acc Q := by
  have key : ∀ (rest done : List α) (acc : List D), l = done ++ rest → I done acc → foldW step (rest.map emb) acc Q := by
    intro rest
    induction rest with
    | nil =>
      intro done acc e h
      rw [List.append_nil] at e
      subst e
      exact hd acc h
    | cons x rest ih =>
      intro done acc e h
      rw [List.map_cons]
      unfold foldW
      exact hs done x rest acc _ e h fun acc' h' => ih (done ++ [x]) acc' (by rw [e]; simp) h'
  exact key l [] acc rfl h0
/-- [g x for x in l if c x] -/
theorem foldW_filter {α : Type} {emb : α → D} {step : D → List D → (List D → Prop) → Prop} {Q : List D → Prop} {l : List α} (c : α → Bool) (g : α → D)
    (hs : ∀ x acc kk, x ∈ l → kk (if c x = true then acc ++ [g x] else acc) → step (emb x) acc kk) (hd : Q ((l.filter c).map g)) : foldW step (l.map emb) [] Q := by
  refine foldW_inv (I := fun done acc => acc = (done.filter c).map g) rfl (fun done x rest acc kk e h hk => ?_) (fun acc h => by rw [h]; exact hd)
  refine hs x acc kk (by rw [e]; simp) (hk _ ?_)
  rw [h, List.filter_append, List.map_append]
  by_cases hc : c x = true
  · rw [if_pos hc]; simp [hc]
  · rw [if_neg hc]; simp [hc]
theorem foldW_map {α : Type} {emb : α → D} {step : D → List D → (List D → Prop) → Prop} {Q : List D → Prop} {l : List α} (g : α → D)
    (hs : ∀ x acc kk, x ∈ l → kk (acc ++ [g x]) → step (emb x) acc kk) (hd : Q (l.map g)) : foldW step (l.map emb) [] Q := by
  refine foldW_filter (fun _ => true) g (fun x acc kk hx h => hs x acc kk hx (by simpa using h)) ?_
  rw [List.filter_eq_self.mpr (fun _ _ => rfl)]
  exact hd
/-- each item is any that R allows -/
theorem paired_snoc {α β : Type} {R : α → β → Prop} {as : List α} {bs : List β} (h : Paired R as bs) {x : α} {y : β} (hx : R x y) : Paired R (as ++ [x]) (bs ++ [y]) := by
  induction h with
  | nil => exact .cons hx .nil
  | cons h1 _ ih => exact .cons h1 ih
theorem foldW_any {α : Type} {emb : α → D} {step : D → List D → (List D → Prop) → Prop} {Q : List D → Prop} {l : List α} (R : α → D → Prop)
    (hs : ∀ x acc kk, x ∈ l → (∀ y, R x y → kk (acc ++ [y])) → step (emb x) acc kk) (hd : ∀ ys, Paired R l ys → Q ys) : foldW step (l.map emb) [] Q := by
  refine foldW_inv (I := fun done acc => Paired R done acc) .nil (fun done x rest acc kk e h hk => ?_) hd
  exact hs x acc kk (by rw [e]; simp) fun y hy => hk _ (paired_snoc h hy)
/-! ### sums -/
def qsum (l : List Rat) : Rat := l.foldr (· + ·) 0
theorem qsum_append (a b : List Rat) : qsum (a ++ b) = qsum a + qsum b := by
  induction a with
  | nil => show qsum b = 0 + qsum b; grind
  | cons x a ih =>
    show x + qsum (a ++ b) = x + qsum a + qsum b
    rw [ih]; grind
theorem qsum_nil : qsum [] = 0 := rfl
theorem qsum_cons (x : Rat) (l : List Rat) : qsum (x :: l) = x + qsum l := rfl
theorem qsum_snoc (a : List Rat) (x : Rat) : qsum (a ++ [x]) = qsum a + x := by
  rw [qsum_append, qsum_cons, qsum_nil]; grind
theorem Sz.qsum {n : Nat} {l : List Rat} (h : ∀ x ∈ l, Sz n x) : Sz (l.length * (n + 1) + 1) (qsum l) := by
  induction l with
  | nil =>
    show Sz ((0 : Nat) * (n + 1) + 1) 0
    exact Sz.zero.mono (by omega)
  | cons x l ih =>
    have h1 := h x List.mem_cons_self
    have h2 := ih fun y hy => h y (List.mem_cons_of_mem _ hy)
    rw [qsum_cons]
    refine h1.add h2 ?_
    rw [List.length_cons, Nat.add_mul]
    omega
def seqD (b : Bool) (ds : List D) : D := if b = true then .list ds else .tuple ds
theorem seqOf_seqD {b : Bool} {ds : List D} {P : List D → Prop} (h : P ds) : seqOf (seqD b ds) P := by
  cases b <;> exact h
/-- the sum of a list or a tuple of ratios: the items and all sums on the way are of so many digits -/
structure Sums (m : Nat) (l : List Rat) : Prop where
  it : ∀ x ∈ l, Sz m x
  su : ∀ d e, l = d ++ e → Sz m (qsum d)
theorem Sums.grow {l : List Rat} {n : Nat} (h : ∀ x ∈ l, Sz n x) : Sums (l.length * (n + 1) + n + 1) l := by
  refine ⟨fun x hx => (h x hx).mono (by omega), fun d e he => ?_⟩
  have hd := Sz.qsum (l := d) (n := n) fun x hx => h x (by rw [he]; simp [hx])
  refine hd.mono ?_
  have : d.length ≤ l.length := by rw [he]; simp
  have := Nat.mul_le_mul_right (n + 1) this
  omega
def φ_total : Phi := fun as P _ => ∃ (b : Bool) (l : List Rat) (m : Nat), as = [.fz (seqD b (l.map qD))] ∧ Sums m l ∧ m < 3990 ∧ P (qD (qsum l))
abbrev φ_total_of : Phi := φ_total
abbrev φ__law_total : Phi := φ_total
theorem qD_zero : qD 0 = .tuple [.int 0, .int 1] := rfl
theorem qD_one : qD 1 = .tuple [.int 1, .int 1] := rfl
theorem imp_total_of {Γ : Gam} (e : Γ.Φ "plus" = φ_plus) (e0 : Γ.gl.lookup ("NOTHING" : Str) = some (qD 0)) (as : List Sl) (P : D → Prop) (PE : Str → Prop) (h : φ_total_of as P PE) : spW Γ d_total_of as P PE := by
  obtain ⟨b, l, m, rfl, hs, hm, hP⟩ := h
  refine ⟨rfl, ?_⟩
  simp only [d_total_of, true_and, wpSs, wpS, wpE, wpX, wpO, wpC, wpI, ent, kt0, bindT, bindTs, tgsLen, wipeR, constD, owL, List.map_cons, List.map_nil, List.length_cons, List.length_nil, List.replicate, List.cons_append, List.nil_append, Nat.reduceSub, Nat.reduceAdd, List.getElem?_cons_zero, List.getElem?_cons_succ, List.getElem?_nil, List.set_cons_zero, List.set_cons_succ, opF, cmpF, Bi.fd, Option.map_some, if_true, if_false, Bool.true_eq_false, Bool.false_eq_true, reduceIte, Bool.not_true, Bool.not_false, w_some, w_none, w_fz0, w_fz1, w_t0, w_t1, w_t2, w_t3, w_t4, w_add, w_addL, w_addT, w_sub, w_subB, w_mul, w_mulL, w_mulT, w_mod, w_div, w_lt, w_le, w_gt, w_ge, w_is, w_isnt, w_n0, w_n1, w_n2, w_n3, w_n4, w_neg, w_atL, w_atT, w_lenL, w_lenT, w_tupL, w_tupT, w_lisL, w_lisT, w_abs, w_int, w_intB, w_gcd, w_min, w_max, w_seqL, w_seqT, w_augA, w_augS, w_augM, w_intQ, w_lstQ, w_rng1, w_rng2, w_zipL, w_zipT, w_enum]
  rw [e0]
  simp only [true_and, wpSs, wpS, wpE, wpX, wpO, wpC, wpI, ent, kt0, bindT, bindTs, tgsLen, wipeR, constD, owL, List.map_cons, List.map_nil, List.length_cons, List.length_nil, List.replicate, List.cons_append, List.nil_append, Nat.reduceSub, Nat.reduceAdd, List.getElem?_cons_zero, List.getElem?_cons_succ, List.getElem?_nil, List.set_cons_zero, List.set_cons_succ, opF, cmpF, Bi.fd, Option.map_some, if_true, if_false, Bool.true_eq_false, Bool.false_eq_true, reduceIte, Bool.not_true, Bool.not_false, w_some, w_none, w_fz0, w_fz1, w_t0, w_t1, w_t2, w_t3, w_t4, w_add, w_addL, w_addT, w_sub, w_subB, w_mul, w_mulL, w_mulT, w_mod, w_div, w_lt, w_le, w_gt, w_ge, w_is, w_isnt, w_n0, w_n1, w_n2, w_n3, w_n4, w_neg, w_atL, w_atT, w_lenL, w_lenT, w_tupL, w_tupT, w_lisL, w_lisT, w_abs, w_int, w_intB, w_gcd, w_min, w_max, w_seqL, w_seqT, w_augA, w_augS, w_augM, w_intQ, w_lstQ, w_rng1, w_rng2, w_zipL, w_zipT, w_enum]
  refine seqOf_seqD (forW_inv (I := fun done ρ => ∃ y, ρ = [some (.fz (seqD b (l.map qD))), some (.fz (qD (qsum done))), y]) ⟨none, rfl⟩ (fun done x rest ρ kk el hI hk => ?_) (fun ρ hI => ?_))
  · obtain ⟨y, rfl⟩ := hI
    have h1 := hs.su done (x :: rest) el
    have h2 := hs.it x (by rw [el]; simp)
    simp only [true_and, wpSs, wpS, wpE, wpX, wpO, wpC, wpI, ent, kt0, bindT, bindTs, tgsLen, wipeR, constD, owL, List.map_cons, List.map_nil, List.length_cons, List.length_nil, List.replicate, List.cons_append, List.nil_append, Nat.reduceSub, Nat.reduceAdd, List.getElem?_cons_zero, List.getElem?_cons_succ, List.getElem?_nil, List.set_cons_zero, List.set_cons_succ, opF, cmpF, Bi.fd, Option.map_some, if_true, if_false, Bool.true_eq_false, Bool.false_eq_true, reduceIte, Bool.not_true, Bool.not_false, w_some, w_none, w_fz0, w_fz1, w_t0, w_t1, w_t2, w_t3, w_t4, w_add, w_addL, w_addT, w_sub, w_subB, w_mul, w_mulL, w_mulT, w_mod, w_div, w_lt, w_le, w_gt, w_ge, w_is, w_isnt, w_n0, w_n1, w_n2, w_n3, w_n4, w_neg, w_atL, w_atT, w_lenL, w_lenT, w_tupL, w_tupT, w_lisL, w_lisT, w_abs, w_int, w_intB, w_gcd, w_min, w_max, w_seqL, w_seqT, w_augA, w_augS, w_augM, w_intQ, w_lstQ, w_rng1, w_rng2, w_zipL, w_zipT, w_enum]
    rw [e]
    refine ⟨_, _, _, _, rfl, h1, h2, by omega, hk _ ⟨some (.fz (qD x)), ?_⟩⟩
    rw [qsum_snoc]
  · obtain ⟨y, rfl⟩ := hI
    simp only [true_and, wpSs, wpS, wpE, wpX, wpO, wpC, wpI, ent, kt0, bindT, bindTs, tgsLen, wipeR, constD, owL, List.map_cons, List.map_nil, List.length_cons, List.length_nil, List.replicate, List.cons_append, List.nil_append, Nat.reduceSub, Nat.reduceAdd, List.getElem?_cons_zero, List.getElem?_cons_succ, List.getElem?_nil, List.set_cons_zero, List.set_cons_succ, opF, cmpF, Bi.fd, Option.map_some, if_true, if_false, Bool.true_eq_false, Bool.false_eq_true, reduceIte, Bool.not_true, Bool.not_false, w_some, w_none, w_fz0, w_fz1, w_t0, w_t1, w_t2, w_t3, w_t4, w_add, w_addL, w_addT, w_sub, w_subB, w_mul, w_mulL, w_mulT, w_mod, w_div, w_lt, w_le, w_gt, w_ge, w_is, w_isnt, w_n0, w_n1, w_n2, w_n3, w_n4, w_neg, w_atL, w_atT, w_lenL, w_lenT, w_tupL, w_tupT, w_lisL, w_lisT, w_abs, w_int, w_intB, w_gcd, w_min, w_max, w_seqL, w_seqT, w_augA, w_augS, w_augM, w_intQ, w_lstQ, w_rng1, w_rng2, w_zipL, w_zipT, w_enum]
    exact hP
theorem imp__law_total {Γ : Gam} (e : Γ.Φ "_law_plus" = φ__law_plus) (as : List Sl) (P : D → Prop) (PE : Str → Prop) (h : φ__law_total as P PE) : spW Γ d__law_total as P PE := by
  obtain ⟨b, l, m, rfl, hs, hm, hP⟩ := h
  refine ⟨rfl, ?_⟩
  simp only [d__law_total, true_and, wpSs, wpS, wpE, wpX, wpO, wpC, wpI, ent, kt0, bindT, bindTs, tgsLen, wipeR, constD, owL, List.map_cons, List.map_nil, List.length_cons, List.length_nil, List.replicate, List.cons_append, List.nil_append, Nat.reduceSub, Nat.reduceAdd, List.getElem?_cons_zero, List.getElem?_cons_succ, List.getElem?_nil, List.set_cons_zero, List.set_cons_succ, opF, cmpF, Bi.fd, Option.map_some, if_true, if_false, Bool.true_eq_false, Bool.false_eq_true, reduceIte, Bool.not_true, Bool.not_false, w_some, w_none, w_fz0, w_fz1, w_t0, w_t1, w_t2, w_t3, w_t4, w_add, w_addL, w_addT, w_sub, w_subB, w_mul, w_mulL, w_mulT, w_mod, w_div, w_lt, w_le, w_gt, w_ge, w_is, w_isnt, w_n0, w_n1, w_n2, w_n3, w_n4, w_neg, w_atL, w_atT, w_lenL, w_lenT, w_tupL, w_tupT, w_lisL, w_lisT, w_abs, w_int, w_intB, w_gcd, w_min, w_max, w_seqL, w_seqT, w_augA, w_augS, w_augM, w_intQ, w_lstQ, w_rng1, w_rng2, w_zipL, w_zipT, w_enum]
  refine seqOf_seqD (forW_inv (I := fun done ρ => ∃ y, ρ = [some (.fz (seqD b (l.map qD))), some (.fz (qD (qsum done))), y]) ⟨none, rfl⟩ (fun done x rest ρ kk el hI hk => ?_) (fun ρ hI => ?_))
  · obtain ⟨y, rfl⟩ := hI
    have h1 := hs.su done (x :: rest) el
    have h2 := hs.it x (by rw [el]; simp)
    simp only [true_and, wpSs, wpS, wpE, wpX, wpO, wpC, wpI, ent, kt0, bindT, bindTs, tgsLen, wipeR, constD, owL, List.map_cons, List.map_nil, List.length_cons, List.length_nil, List.replicate, List.cons_append, List.nil_append, Nat.reduceSub, Nat.reduceAdd, List.getElem?_cons_zero, List.getElem?_cons_succ, List.getElem?_nil, List.set_cons_zero, List.set_cons_succ, opF, cmpF, Bi.fd, Option.map_some, if_true, if_false, Bool.true_eq_false, Bool.false_eq_true, reduceIte, Bool.not_true, Bool.not_false, w_some, w_none, w_fz0, w_fz1, w_t0, w_t1, w_t2, w_t3, w_t4, w_add, w_addL, w_addT, w_sub, w_subB, w_mul, w_mulL, w_mulT, w_mod, w_div, w_lt, w_le, w_gt, w_ge, w_is, w_isnt, w_n0, w_n1, w_n2, w_n3, w_n4, w_neg, w_atL, w_atT, w_lenL, w_lenT, w_tupL, w_tupT, w_lisL, w_lisT, w_abs, w_int, w_intB, w_gcd, w_min, w_max, w_seqL, w_seqT, w_augA, w_augS, w_augM, w_intQ, w_lstQ, w_rng1, w_rng2, w_zipL, w_zipT, w_enum]
    rw [e]
    refine ⟨_, _, _, _, rfl, h1, h2, by omega, hk _ ⟨some (.fz (qD x)), ?_⟩⟩
    rw [qsum_snoc]
  · obtain ⟨y, rfl⟩ := hI
    simp only [true_and, wpSs, wpS, wpE, wpX, wpO, wpC, wpI, ent, kt0, bindT, bindTs, tgsLen, wipeR, constD, owL, List.map_cons, List.map_nil, List.length_cons, List.length_nil, List.replicate, List.cons_append, List.nil_append, Nat.reduceSub, Nat.reduceAdd, List.getElem?_cons_zero, List.getElem?_cons_succ, List.getElem?_nil, List.set_cons_zero, List.set_cons_succ, opF, cmpF, Bi.fd, Option.map_some, if_true, if_false, Bool.true_eq_false, Bool.false_eq_true, reduceIte, Bool.not_true, Bool.not_false, w_some, w_none, w_fz0, w_fz1, w_t0, w_t1, w_t2, w_t3, w_t4, w_add, w_addL, w_addT, w_sub, w_subB, w_mul, w_mulL, w_mulT, w_mod, w_div, w_lt, w_le, w_gt, w_ge, w_is, w_isnt, w_n0, w_n1, w_n2, w_n3, w_n4, w_neg, w_atL, w_atT, w_lenL, w_lenT, w_tupL, w_tupT, w_lisL, w_lisT, w_abs, w_int, w_intB, w_gcd, w_min, w_max, w_seqL, w_seqT, w_augA, w_augS, w_augM, w_intQ, w_lstQ, w_rng1, w_rng2, w_zipL, w_zipT, w_enum]
    exact hP
end DL

set_option Elab.async false
set_option linter.all false
set_option maxRecDepth 100000
set_option maxHeartbeats 4000000
namespace DL
open PySem PySem.Spec PyProof.Rows L2
/-! ### typed data: == is equality -/
class Td (α : Type) where
  d : α → D
  inj : ∀ x y, PyData.eqv (d x) (d y) = true ↔ x = y
  lay : ∀ x, PyData.canLay0 (d x) = true
  dp : Nat
  le : ∀ x, (d x).depth ≤ dp
/-- a tuple of items of one type -/
structure Tu (α : Type) where
  l : List α
  deriving DecidableEq
instance : Td Int where
  d := .int
  inj x y := by simp [PyData.eqv]
  lay x := rfl
  dp := 0
  le x := by simp [PyData.depth]
instance : Td Bool where
  d := .bool
  inj x y := by simp [PyData.eqv]
  lay x := rfl
  dp := 0
  le x := by simp [PyData.depth]
section
variable {α β : Type} [Td α] [Td β]
theorem td_all (xs ys : List α) : PyData.eqvAll (xs.map Td.d) (ys.map Td.d) = true ↔ xs = ys := by
  induction xs generalizing ys with
  | nil => cases ys <;> simp [PyData.eqvAll]
  | cons x xs ih =>
    cases ys with
    | nil => simp [PyData.eqvAll]
    | cons y ys => simp only [List.map_cons, PyData.eqvAll, Bool.and_eq_true, Td.inj, ih, List.cons.injEq]
theorem td_lay (xs : List α) : PyData.canLayAll0 (xs.map Td.d) = true := by
  induction xs with
  | nil => rfl
  | cons x xs ih => simp only [List.map_cons, PyData.canLayAll0, Td.lay, ih, Bool.and_self]
theorem td_dp (xs : List α) : PyData.depthAll (xs.map Td.d) ≤ Td.dp α := by
  induction xs with
  | nil => exact Nat.zero_le _
  | cons x xs ih =>
    simp only [List.map_cons, PyData.depthAll]
    exact Nat.max_le.mpr ⟨Td.le x, ih⟩
instance : Td (List α) where
  d xs := .list (xs.map Td.d)
  inj xs ys := by simp only [PyData.eqv, td_all]
  lay xs := by simp only [PyData.canLay0, td_lay]
  dp := Td.dp α + 1
  le xs := by
    have := td_dp xs
    simp only [PyData.depth]
    omega
instance : Td (Tu α) where
  d xs := .tuple (xs.l.map Td.d)
  inj xs ys := by
    cases xs; cases ys
    simp only [PyData.eqv, td_all, Tu.mk.injEq]
  lay xs := by simp only [PyData.canLay0, td_lay]
  dp := Td.dp α + 1
  le xs := by
    have := td_dp xs.l
    simp only [PyData.depth]
    omega
instance : Td (α × β) where
  d p := .tuple [Td.d p.1, Td.d p.2]
  inj p q := by
    simp only [PyData.eqv, PyData.eqvAll, Bool.and_eq_true, Td.inj, and_true]
    exact ⟨fun h => Prod.ext h.1 h.2, fun h => by rw [h]; exact ⟨rfl, rfl⟩⟩
  lay p := by simp only [PyData.canLay0, PyData.canLayAll0, Td.lay, Bool.and_self]
  dp := max (Td.dp α) (Td.dp β) + 1
  le p := by
    have h1 := Td.le p.1
    have h2 := Td.le p.2
    simp only [PyData.depth, PyData.depthAll]
    omega
end
instance : Td Rat where
  d := qD
  inj p q := by
    show PyData.eqv (Td.d (p.num, (p.den : Int))) (Td.d (q.num, (q.den : Int))) = true ↔ _
    rw [Td.inj]
    exact ⟨fun e => Rat.ext (congrArg Prod.fst e) (by have h2 : (p.den : Int) = q.den := congrArg Prod.snd e; omega), fun e => by rw [e]⟩
  lay p := rfl
  dp := 1
  le p := Nat.le_refl _
section
variable {α : Type} [Td α]
theorem td_dec [DecidableEq α] (x y : α) : PyData.eqv (Td.d x) (Td.d y) = decide (x = y) := by
  rw [Bool.eq_iff_iff, Td.inj, decide_eq_true_eq]
theorem td_shp (x : α) (h : Td.dp α ≤ 64) : shp (Td.d x) := by
  unfold shp SeqAt.shaped
  rw [Td.lay, decide_eq_true (Nat.le_trans (Td.le x) h)]
  rfl
theorem dEqT [DecidableEq α] {x y : α} {Q : D → Prop} (h : Q (.bool (decide (x = y)))) (hd : Td.dp α ≤ 64 := by decide) : dEq (Td.d x) (Td.d y) Q :=
  ⟨td_shp x hd, td_shp y hd, by rw [td_dec]; exact h⟩
theorem dNeT [DecidableEq α] {x y : α} {Q : D → Prop} (h : Q (.bool (!decide (x = y)))) (hd : Td.dp α ≤ 64 := by decide) : dNe (Td.d x) (Td.d y) Q :=
  ⟨td_shp x hd, td_shp y hd, by rw [td_dec]; exact h⟩
end
theorem dEqI {i j : Int} {Q : D → Prop} (h : Q (.bool (decide (i = j)))) : dEq (.int i) (.int j) Q := dEqT (α := Int) h
theorem dNeI {i j : Int} {Q : D → Prop} (h : Q (.bool (!decide (i = j)))) : dNe (.int i) (.int j) Q := dNeT (α := Int) h
/-! ### whole numbers in a range, rows of them -/
def oD : Option Int → D
  | none => .none
  | some i => .int i
def isInt : D → Option Int → Option Int → Bool
  | .int i, lo, hi => (lo.all fun l => decide (l ≤ i)) && hi.all fun l => decide (i ≤ l)
  | _, _, _ => false
def φ_is_integer : Phi := fun as P _ => ∃ (d : D) (lo hi : Option Int), as = [.fz d, .fz (oD lo), .fz (oD hi)] ∧ P (.bool (isInt d lo hi))
theorem imp_is_integer {Γ : Gam} (as : List Sl) (P : D → Prop) (PE : Str → Prop) (h : φ_is_integer as P PE) : spW Γ d_is_integer as P PE := by
  obtain ⟨d, lo, hi, rfl, hP⟩ := h
  refine ⟨rfl, ?_⟩
  simp only [d_is_integer, true_and, wpSs, wpS, wpE, wpX, wpO, wpC, wpI, ent, kt0, bindT, bindTs, tgsLen, wipeR, constD, owL, List.map_cons, List.map_nil, List.length_cons, List.length_nil, List.replicate, List.cons_append, List.nil_append, Nat.reduceSub, Nat.reduceAdd, List.getElem?_cons_zero, List.getElem?_cons_succ, List.getElem?_nil, List.set_cons_zero, List.set_cons_succ, opF, cmpF, Bi.fd, Option.map_some, if_true, if_false, Bool.true_eq_false, Bool.false_eq_true, reduceIte, Bool.not_true, Bool.not_false, w_some, w_none, w_fz0, w_fz1, w_t0, w_t1, w_t2, w_t3, w_t4, w_add, w_addL, w_addT, w_sub, w_subB, w_mul, w_mulL, w_mulT, w_mod, w_div, w_lt, w_le, w_gt, w_ge, w_is, w_isnt, w_n0, w_n1, w_n2, w_n3, w_n4, w_neg, w_atL, w_atT, w_lenL, w_lenT, w_tupL, w_tupT, w_lisL, w_lisT, w_abs, w_int, w_intB, w_gcd, w_min, w_max, w_seqL, w_seqT, w_augA, w_augS, w_augM, w_intQ, w_lstQ, w_rng1, w_rng2, w_zipL, w_zipT, w_enum]
  cases d with
  | int i =>
    have e1 : isiD "int" (.int i) = true := rfl
    have e2 : isiD "bool" (.int i) = false := rfl
    rw [e1, e2]
    simp only [true_and, wpSs, wpS, wpE, wpX, wpO, wpC, wpI, ent, kt0, bindT, bindTs, tgsLen, wipeR, constD, owL, List.map_cons, List.map_nil, List.length_cons, List.length_nil, List.replicate, List.cons_append, List.nil_append, Nat.reduceSub, Nat.reduceAdd, List.getElem?_cons_zero, List.getElem?_cons_succ, List.getElem?_nil, List.set_cons_zero, List.set_cons_succ, opF, cmpF, Bi.fd, Option.map_some, if_true, if_false, Bool.true_eq_false, Bool.false_eq_true, reduceIte, Bool.not_true, Bool.not_false, w_some, w_none, w_fz0, w_fz1, w_t0, w_t1, w_t2, w_t3, w_t4, w_add, w_addL, w_addT, w_sub, w_subB, w_mul, w_mulL, w_mulT, w_mod, w_div, w_lt, w_le, w_gt, w_ge, w_is, w_isnt, w_n0, w_n1, w_n2, w_n3, w_n4, w_neg, w_atL, w_atT, w_lenL, w_lenT, w_tupL, w_tupT, w_lisL, w_lisT, w_abs, w_int, w_intB, w_gcd, w_min, w_max, w_seqL, w_seqT, w_augA, w_augS, w_augM, w_intQ, w_lstQ, w_rng1, w_rng2, w_zipL, w_zipT, w_enum]
    cases lo with
    | none =>
      cases hi with
      | none => simpa [oD, isNone, isInt] using hP
      | some u =>
        simp only [oD, isNone, true_and, wpSs, wpS, wpE, wpX, wpO, wpC, wpI, ent, kt0, bindT, bindTs, tgsLen, wipeR, constD, owL, List.map_cons, List.map_nil, List.length_cons, List.length_nil, List.replicate, List.cons_append, List.nil_append, Nat.reduceSub, Nat.reduceAdd, List.getElem?_cons_zero, List.getElem?_cons_succ, List.getElem?_nil, List.set_cons_zero, List.set_cons_succ, opF, cmpF, Bi.fd, Option.map_some, if_true, if_false, Bool.true_eq_false, Bool.false_eq_true, reduceIte, Bool.not_true, Bool.not_false, w_some, w_none, w_fz0, w_fz1, w_t0, w_t1, w_t2, w_t3, w_t4, w_add, w_addL, w_addT, w_sub, w_subB, w_mul, w_mulL, w_mulT, w_mod, w_div, w_lt, w_le, w_gt, w_ge, w_is, w_isnt, w_n0, w_n1, w_n2, w_n3, w_n4, w_neg, w_atL, w_atT, w_lenL, w_lenT, w_tupL, w_tupT, w_lisL, w_lisT, w_abs, w_int, w_intB, w_gcd, w_min, w_max, w_seqL, w_seqT, w_augA, w_augS, w_augM, w_intQ, w_lstQ, w_rng1, w_rng2, w_zipL, w_zipT, w_enum]
        simpa [isInt] using hP
    | some l =>
      simp only [oD, isNone, true_and, wpSs, wpS, wpE, wpX, wpO, wpC, wpI, ent, kt0, bindT, bindTs, tgsLen, wipeR, constD, owL, List.map_cons, List.map_nil, List.length_cons, List.length_nil, List.replicate, List.cons_append, List.nil_append, Nat.reduceSub, Nat.reduceAdd, List.getElem?_cons_zero, List.getElem?_cons_succ, List.getElem?_nil, List.set_cons_zero, List.set_cons_succ, opF, cmpF, Bi.fd, Option.map_some, if_true, if_false, Bool.true_eq_false, Bool.false_eq_true, reduceIte, Bool.not_true, Bool.not_false, w_some, w_none, w_fz0, w_fz1, w_t0, w_t1, w_t2, w_t3, w_t4, w_add, w_addL, w_addT, w_sub, w_subB, w_mul, w_mulL, w_mulT, w_mod, w_div, w_lt, w_le, w_gt, w_ge, w_is, w_isnt, w_n0, w_n1, w_n2, w_n3, w_n4, w_neg, w_atL, w_atT, w_lenL, w_lenT, w_tupL, w_tupT, w_lisL, w_lisT, w_abs, w_int, w_intB, w_gcd, w_min, w_max, w_seqL, w_seqT, w_augA, w_augS, w_augM, w_intQ, w_lstQ, w_rng1, w_rng2, w_zipL, w_zipT, w_enum]
      by_cases hl : l ≤ i
      · rw [decide_eq_true hl]
        simp only [true_and, wpSs, wpS, wpE, wpX, wpO, wpC, wpI, ent, kt0, bindT, bindTs, tgsLen, wipeR, constD, owL, List.map_cons, List.map_nil, List.length_cons, List.length_nil, List.replicate, List.cons_append, List.nil_append, Nat.reduceSub, Nat.reduceAdd, List.getElem?_cons_zero, List.getElem?_cons_succ, List.getElem?_nil, List.set_cons_zero, List.set_cons_succ, opF, cmpF, Bi.fd, Option.map_some, if_true, if_false, Bool.true_eq_false, Bool.false_eq_true, reduceIte, Bool.not_true, Bool.not_false, w_some, w_none, w_fz0, w_fz1, w_t0, w_t1, w_t2, w_t3, w_t4, w_add, w_addL, w_addT, w_sub, w_subB, w_mul, w_mulL, w_mulT, w_mod, w_div, w_lt, w_le, w_gt, w_ge, w_is, w_isnt, w_n0, w_n1, w_n2, w_n3, w_n4, w_neg, w_atL, w_atT, w_lenL, w_lenT, w_tupL, w_tupT, w_lisL, w_lisT, w_abs, w_int, w_intB, w_gcd, w_min, w_max, w_seqL, w_seqT, w_augA, w_augS, w_augM, w_intQ, w_lstQ, w_rng1, w_rng2, w_zipL, w_zipT, w_enum]
        cases hi with
        | none =>
          simp only [oD, isNone, true_and, wpSs, wpS, wpE, wpX, wpO, wpC, wpI, ent, kt0, bindT, bindTs, tgsLen, wipeR, constD, owL, List.map_cons, List.map_nil, List.length_cons, List.length_nil, List.replicate, List.cons_append, List.nil_append, Nat.reduceSub, Nat.reduceAdd, List.getElem?_cons_zero, List.getElem?_cons_succ, List.getElem?_nil, List.set_cons_zero, List.set_cons_succ, opF, cmpF, Bi.fd, Option.map_some, if_true, if_false, Bool.true_eq_false, Bool.false_eq_true, reduceIte, Bool.not_true, Bool.not_false, w_some, w_none, w_fz0, w_fz1, w_t0, w_t1, w_t2, w_t3, w_t4, w_add, w_addL, w_addT, w_sub, w_subB, w_mul, w_mulL, w_mulT, w_mod, w_div, w_lt, w_le, w_gt, w_ge, w_is, w_isnt, w_n0, w_n1, w_n2, w_n3, w_n4, w_neg, w_atL, w_atT, w_lenL, w_lenT, w_tupL, w_tupT, w_lisL, w_lisT, w_abs, w_int, w_intB, w_gcd, w_min, w_max, w_seqL, w_seqT, w_augA, w_augS, w_augM, w_intQ, w_lstQ, w_rng1, w_rng2, w_zipL, w_zipT, w_enum]
          simpa [isInt, hl] using hP
        | some u =>
          simp only [oD, isNone, true_and, wpSs, wpS, wpE, wpX, wpO, wpC, wpI, ent, kt0, bindT, bindTs, tgsLen, wipeR, constD, owL, List.map_cons, List.map_nil, List.length_cons, List.length_nil, List.replicate, List.cons_append, List.nil_append, Nat.reduceSub, Nat.reduceAdd, List.getElem?_cons_zero, List.getElem?_cons_succ, List.getElem?_nil, List.set_cons_zero, List.set_cons_succ, opF, cmpF, Bi.fd, Option.map_some, if_true, if_false, Bool.true_eq_false, Bool.false_eq_true, reduceIte, Bool.not_true, Bool.not_false, w_some, w_none, w_fz0, w_fz1, w_t0, w_t1, w_t2, w_t3, w_t4, w_add, w_addL, w_addT, w_sub, w_subB, w_mul, w_mulL, w_mulT, w_mod, w_div, w_lt, w_le, w_gt, w_ge, w_is, w_isnt, w_n0, w_n1, w_n2, w_n3, w_n4, w_neg, w_atL, w_atT, w_lenL, w_lenT, w_tupL, w_tupT, w_lisL, w_lisT, w_abs, w_int, w_intB, w_gcd, w_min, w_max, w_seqL, w_seqT, w_augA, w_augS, w_augM, w_intQ, w_lstQ, w_rng1, w_rng2, w_zipL, w_zipT, w_enum]
          simpa [isInt, hl] using hP
      · rw [decide_eq_false hl]
        simp only [true_and, wpSs, wpS, wpE, wpX, wpO, wpC, wpI, ent, kt0, bindT, bindTs, tgsLen, wipeR, constD, owL, List.map_cons, List.map_nil, List.length_cons, List.length_nil, List.replicate, List.cons_append, List.nil_append, Nat.reduceSub, Nat.reduceAdd, List.getElem?_cons_zero, List.getElem?_cons_succ, List.getElem?_nil, List.set_cons_zero, List.set_cons_succ, opF, cmpF, Bi.fd, Option.map_some, if_true, if_false, Bool.true_eq_false, Bool.false_eq_true, reduceIte, Bool.not_true, Bool.not_false, w_some, w_none, w_fz0, w_fz1, w_t0, w_t1, w_t2, w_t3, w_t4, w_add, w_addL, w_addT, w_sub, w_subB, w_mul, w_mulL, w_mulT, w_mod, w_div, w_lt, w_le, w_gt, w_ge, w_is, w_isnt, w_n0, w_n1, w_n2, w_n3, w_n4, w_neg, w_atL, w_atT, w_lenL, w_lenT, w_tupL, w_tupT, w_lisL, w_lisT, w_abs, w_int, w_intB, w_gcd, w_min, w_max, w_seqL, w_seqT, w_augA, w_augS, w_augM, w_intQ, w_lstQ, w_rng1, w_rng2, w_zipL, w_zipT, w_enum]
        simpa [isInt, hl] using hP
  | bool b =>
    have e1 : isiD "int" (.bool b) = true := rfl
    have e2 : isiD "bool" (.bool b) = true := rfl
    rw [e1, e2]
    simp only [true_and, wpSs, wpS, wpE, wpX, wpO, wpC, wpI, ent, kt0, bindT, bindTs, tgsLen, wipeR, constD, owL, List.map_cons, List.map_nil, List.length_cons, List.length_nil, List.replicate, List.cons_append, List.nil_append, Nat.reduceSub, Nat.reduceAdd, List.getElem?_cons_zero, List.getElem?_cons_succ, List.getElem?_nil, List.set_cons_zero, List.set_cons_succ, opF, cmpF, Bi.fd, Option.map_some, if_true, if_false, Bool.true_eq_false, Bool.false_eq_true, reduceIte, Bool.not_true, Bool.not_false, w_some, w_none, w_fz0, w_fz1, w_t0, w_t1, w_t2, w_t3, w_t4, w_add, w_addL, w_addT, w_sub, w_subB, w_mul, w_mulL, w_mulT, w_mod, w_div, w_lt, w_le, w_gt, w_ge, w_is, w_isnt, w_n0, w_n1, w_n2, w_n3, w_n4, w_neg, w_atL, w_atT, w_lenL, w_lenT, w_tupL, w_tupT, w_lisL, w_lisT, w_abs, w_int, w_intB, w_gcd, w_min, w_max, w_seqL, w_seqT, w_augA, w_augS, w_augM, w_intQ, w_lstQ, w_rng1, w_rng2, w_zipL, w_zipT, w_enum]
    exact hP
  | none => exact hP
  | str _ => exact hP
  | list _ => exact hP
  | tuple _ => exact hP
  | dict _ => exact hP
def isRow : D → Option Int → Option Int → Bool
  | .tuple ds, lo, hi => ds.all fun d => isInt d lo hi
  | _, _, _ => false
/-- all([..]), any([..]) of truth values -/
theorem dAll_map {α : Type} {l : List α} {f : α → Bool} {Q : D → Prop} (h : Q (.bool (l.all f))) : dAll [.list (l.map fun x => PyData.bool (f x))] Q := by
  show optQ (boolsOf _) _
  rw [show (l.map fun x => PyData.bool (f x)) = (l.map f).map PyData.bool by rw [List.map_map]; rfl, boolsOf_map]
  show Q (.bool ((l.map f).all id))
  rw [List.all_map]
  exact h
theorem dAny_map {α : Type} {l : List α} {f : α → Bool} {Q : D → Prop} (h : Q (.bool (l.any f))) : dAny [.list (l.map fun x => PyData.bool (f x))] Q := by
  show optQ (boolsOf _) _
  rw [show (l.map fun x => PyData.bool (f x)) = (l.map f).map PyData.bool by rw [List.map_map]; rfl, boolsOf_map]
  show Q (.bool ((l.map f).any id))
  rw [List.any_map]
  exact h
def φ_is_row : Phi := fun as P _ => ∃ (d : D) (lo hi : Option Int), as = [.fz d, .fz (oD lo), .fz (oD hi)] ∧ (∀ ds, d = .tuple ds → ds.length ≤ sizeLine) ∧ P (.bool (isRow d lo hi))
theorem imp_is_row {Γ : Gam} (e : Γ.Φ "is_integer" = φ_is_integer) (as : List Sl) (P : D → Prop) (PE : Str → Prop) (h : φ_is_row as P PE) : spW Γ d_is_row as P PE := by
  obtain ⟨d, lo, hi, rfl, hs, hP⟩ := h
  refine ⟨rfl, ?_⟩
  simp only [d_is_row, true_and, wpSs, wpS, wpE, wpX, wpO, wpC, wpI, ent, kt0, bindT, bindTs, tgsLen, wipeR, constD, owL, List.map_cons, List.map_nil, List.length_cons, List.length_nil, List.replicate, List.cons_append, List.nil_append, Nat.reduceSub, Nat.reduceAdd, List.getElem?_cons_zero, List.getElem?_cons_succ, List.getElem?_nil, List.set_cons_zero, List.set_cons_succ, opF, cmpF, Bi.fd, Option.map_some, if_true, if_false, Bool.true_eq_false, Bool.false_eq_true, reduceIte, Bool.not_true, Bool.not_false, w_some, w_none, w_fz0, w_fz1, w_t0, w_t1, w_t2, w_t3, w_t4, w_add, w_addL, w_addT, w_sub, w_subB, w_mul, w_mulL, w_mulT, w_mod, w_div, w_lt, w_le, w_gt, w_ge, w_is, w_isnt, w_n0, w_n1, w_n2, w_n3, w_n4, w_neg, w_atL, w_atT, w_lenL, w_lenT, w_tupL, w_tupT, w_lisL, w_lisT, w_abs, w_int, w_intB, w_gcd, w_min, w_max, w_seqL, w_seqT, w_augA, w_augS, w_augM, w_intQ, w_lstQ, w_rng1, w_rng2, w_zipL, w_zipT, w_enum]
  cases d with
  | tuple ds =>
    have e1 : isiD "tuple" (.tuple ds) = true := rfl
    rw [e1]
    simp only [true_and, wpSs, wpS, wpE, wpX, wpO, wpC, wpI, ent, kt0, bindT, bindTs, tgsLen, wipeR, constD, owL, List.map_cons, List.map_nil, List.length_cons, List.length_nil, List.replicate, List.cons_append, List.nil_append, Nat.reduceSub, Nat.reduceAdd, List.getElem?_cons_zero, List.getElem?_cons_succ, List.getElem?_nil, List.set_cons_zero, List.set_cons_succ, opF, cmpF, Bi.fd, Option.map_some, if_true, if_false, Bool.true_eq_false, Bool.false_eq_true, reduceIte, Bool.not_true, Bool.not_false, w_some, w_none, w_fz0, w_fz1, w_t0, w_t1, w_t2, w_t3, w_t4, w_add, w_addL, w_addT, w_sub, w_subB, w_mul, w_mulL, w_mulT, w_mod, w_div, w_lt, w_le, w_gt, w_ge, w_is, w_isnt, w_n0, w_n1, w_n2, w_n3, w_n4, w_neg, w_atL, w_atT, w_lenL, w_lenT, w_tupL, w_tupT, w_lisL, w_lisT, w_abs, w_int, w_intB, w_gcd, w_min, w_max, w_seqL, w_seqT, w_augA, w_augS, w_augM, w_intQ, w_lstQ, w_rng1, w_rng2, w_zipL, w_zipT, w_enum]
    refine ⟨hs ds rfl, ?_⟩
    rw [show foldW _ ds [] _ = foldW _ (ds.map id) [] _ by rw [List.map_id]]
    refine foldW_map (fun x => PyData.bool (isInt x lo hi)) (fun x acc kk hx hk => ?_) ?_
    · rw [e]
      exact ⟨x, lo, hi, rfl, hk⟩
    · exact dAll_map hP
  | none => exact hP
  | str _ => exact hP
  | list _ => exact hP
  | bool _ => exact hP
  | int _ => exact hP
  | dict _ => exact hP
end DL

set_option Elab.async false
set_option linter.all false
set_option maxRecDepth 100000
set_option maxHeartbeats 4000000
namespace DL
open PySem PySem.Spec PyProof.Rows L2
/-! ### families of functions -/
def rowI (f : List Int) : D := .tuple (f.map PyData.int)
def famD (r : Int) (fs : List (List Int)) : D := .tuple [.int r, .tuple (fs.map rowI)]
structure Fam (r : Int) (n : Nat) (fs : List (List Int)) : Prop where
  r1 : 1 ≤ r
  r6 : r ≤ 6
  f1 : 1 ≤ fs.length
  f30 : fs.length ≤ 30
  n1 : 1 ≤ n
  n8 : n ≤ 8
  len : ∀ f ∈ fs, f.length = n
  val : ∀ f ∈ fs, ∀ x ∈ f, 0 ≤ x ∧ x < r
def intOf : D → Int
  | .int i => i
  | _ => 0
def tupOf : D → List D
  | .tuple ds => ds
  | _ => []
def isFam : D → Bool
  | .tuple [r, .tuple fs] => isInt r (some 1) (some 6) && (decide (1 ≤ (fs.length : Int)) && (decide ((fs.length : Int) ≤ 30) && ((fs.all fun f => isRow f (some 0) (some (intOf r - 1))) && (decide (1 ≤ ((tupOf (fs.headD .none)).length : Int)) && (decide (((tupOf (fs.headD .none)).length : Int) ≤ 8) &&
      fs.all fun f => decide (((tupOf f).length : Int) = (tupOf (fs.headD .none)).length))))))
  | _ => false
def famOk (d : D) : Prop := ∀ x fs, d = .tuple [x, .tuple fs] → fs.length ≤ sizeLine ∧ ∀ f ∈ fs, ∀ ds, f = .tuple ds → ds.length ≤ sizeLine
def φ_is_family : Phi := fun as P _ => ∃ d : D, as = [.fz d] ∧ famOk d ∧ P (.bool (isFam d))
theorem isRow_tup {d : D} {lo hi : Option Int} (h : isRow d lo hi = true) : d = .tuple (tupOf d) := by
  cases d <;> first | rfl | (simp [isRow] at h)
structure K48G (Γ : Gam) : Prop where
  mf : Γ.gl.lookup ("MAX_FUNCTIONS" : Str) = some (.int 30)
  mv : Γ.gl.lookup ("MAX_VALUES" : Str) = some (.int 6)
  mks : Γ.gl.lookup ("MAX_KEYS" : Str) = some (.int 8)
theorem isInt_int {d : D} {lo hi : Option Int} (h : isInt d lo hi = true) : d = .int (intOf d) := by
  cases d <;> first | rfl | (simp [isInt] at h)
theorem imp_is_family {Γ : Gam} (g : K48G Γ) (e : Γ.Φ "is_integer" = φ_is_integer) (e2 : Γ.Φ "is_row" = φ_is_row) (as : List Sl) (P : D → Prop) (PE : Str → Prop) (h : φ_is_family as P PE) : spW Γ d_is_family as P PE := by
  obtain ⟨d, rfl, ok, hP⟩ := h
  refine ⟨rfl, ?_⟩
  simp only [d_is_family, true_and, wpSs, wpS, wpE, wpX, wpO, wpC, wpI, ent, kt0, bindT, bindTs, tgsLen, wipeR, constD, owL, List.map_cons, List.map_nil, List.length_cons, List.length_nil, List.replicate, List.cons_append, List.nil_append, Nat.reduceSub, Nat.reduceAdd, List.getElem?_cons_zero, List.getElem?_cons_succ, List.getElem?_nil, List.set_cons_zero, List.set_cons_succ, opF, cmpF, Bi.fd, Option.map_some, if_true, if_false, Bool.true_eq_false, Bool.false_eq_true, reduceIte, Bool.not_true, Bool.not_false, w_some, w_none, w_fz0, w_fz1, w_t0, w_t1, w_t2, w_t3, w_t4, w_add, w_addL, w_addT, w_sub, w_subB, w_mul, w_mulL, w_mulT, w_mod, w_div, w_lt, w_le, w_gt, w_ge, w_is, w_isnt, w_n0, w_n1, w_n2, w_n3, w_n4, w_neg, w_atL, w_atT, w_lenL, w_lenT, w_tupL, w_tupT, w_lisL, w_lisT, w_abs, w_int, w_intB, w_gcd, w_min, w_max, w_seqL, w_seqT, w_augA, w_augS, w_augM, w_intQ, w_lstQ, w_rng1, w_rng2, w_zipL, w_zipT, w_enum]
  cases d with
  | none => exact hP
  | str _ => exact hP
  | list _ => exact hP
  | bool _ => exact hP
  | int _ => exact hP
  | dict _ => exact hP
  | tuple ds =>
    have e1 : isiD "tuple" (.tuple ds) = true := rfl
    rw [e1]
    simp only [true_and, wpSs, wpS, wpE, wpX, wpO, wpC, wpI, ent, kt0, bindT, bindTs, tgsLen, wipeR, constD, owL, List.map_cons, List.map_nil, List.length_cons, List.length_nil, List.replicate, List.cons_append, List.nil_append, Nat.reduceSub, Nat.reduceAdd, List.getElem?_cons_zero, List.getElem?_cons_succ, List.getElem?_nil, List.set_cons_zero, List.set_cons_succ, opF, cmpF, Bi.fd, Option.map_some, if_true, if_false, Bool.true_eq_false, Bool.false_eq_true, reduceIte, Bool.not_true, Bool.not_false, w_some, w_none, w_fz0, w_fz1, w_t0, w_t1, w_t2, w_t3, w_t4, w_add, w_addL, w_addT, w_sub, w_subB, w_mul, w_mulL, w_mulT, w_mod, w_div, w_lt, w_le, w_gt, w_ge, w_is, w_isnt, w_n0, w_n1, w_n2, w_n3, w_n4, w_neg, w_atL, w_atT, w_lenL, w_lenT, w_tupL, w_tupT, w_lisL, w_lisT, w_abs, w_int, w_intB, w_gcd, w_min, w_max, w_seqL, w_seqT, w_augA, w_augS, w_augM, w_intQ, w_lstQ, w_rng1, w_rng2, w_zipL, w_zipT, w_enum]
    refine dNeI ?_
    match ds, ok, hP with
    | [], _, hP => exact hP
    | [_], _, hP => exact hP
    | _ :: _ :: _ :: _, _, hP =>
      rename_i a b c r _
      have : ((a :: b :: c :: r).length : Int) ≠ 2 := by simp only [List.length_cons]; omega
      rw [decide_eq_false this]
      simp only [true_and, wpSs, wpS, wpE, wpX, wpO, wpC, wpI, ent, kt0, bindT, bindTs, tgsLen, wipeR, constD, owL, List.map_cons, List.map_nil, List.length_cons, List.length_nil, List.replicate, List.cons_append, List.nil_append, Nat.reduceSub, Nat.reduceAdd, List.getElem?_cons_zero, List.getElem?_cons_succ, List.getElem?_nil, List.set_cons_zero, List.set_cons_succ, opF, cmpF, Bi.fd, Option.map_some, if_true, if_false, Bool.true_eq_false, Bool.false_eq_true, reduceIte, Bool.not_true, Bool.not_false, w_some, w_none, w_fz0, w_fz1, w_t0, w_t1, w_t2, w_t3, w_t4, w_add, w_addL, w_addT, w_sub, w_subB, w_mul, w_mulL, w_mulT, w_mod, w_div, w_lt, w_le, w_gt, w_ge, w_is, w_isnt, w_n0, w_n1, w_n2, w_n3, w_n4, w_neg, w_atL, w_atT, w_lenL, w_lenT, w_tupL, w_tupT, w_lisL, w_lisT, w_abs, w_int, w_intB, w_gcd, w_min, w_max, w_seqL, w_seqT, w_augA, w_augS, w_augM, w_intQ, w_lstQ, w_rng1, w_rng2, w_zipL, w_zipT, w_enum]
      cases b <;> exact hP
    | [r, x], ok, hP =>
      rw [decide_eq_true (show (([r, x] : List D).length : Int) = 2 from rfl)]
      simp only [true_and, wpSs, wpS, wpE, wpX, wpO, wpC, wpI, ent, kt0, bindT, bindTs, tgsLen, wipeR, constD, owL, List.map_cons, List.map_nil, List.length_cons, List.length_nil, List.replicate, List.cons_append, List.nil_append, Nat.reduceSub, Nat.reduceAdd, List.getElem?_cons_zero, List.getElem?_cons_succ, List.getElem?_nil, List.set_cons_zero, List.set_cons_succ, opF, cmpF, Bi.fd, Option.map_some, if_true, if_false, Bool.true_eq_false, Bool.false_eq_true, reduceIte, Bool.not_true, Bool.not_false, w_some, w_none, w_fz0, w_fz1, w_t0, w_t1, w_t2, w_t3, w_t4, w_add, w_addL, w_addT, w_sub, w_subB, w_mul, w_mulL, w_mulT, w_mod, w_div, w_lt, w_le, w_gt, w_ge, w_is, w_isnt, w_n0, w_n1, w_n2, w_n3, w_n4, w_neg, w_atL, w_atT, w_lenL, w_lenT, w_tupL, w_tupT, w_lisL, w_lisT, w_abs, w_int, w_intB, w_gcd, w_min, w_max, w_seqL, w_seqT, w_augA, w_augS, w_augM, w_intQ, w_lstQ, w_rng1, w_rng2, w_zipL, w_zipT, w_enum, atI0, g.mv]
      rw [e]
      refine ⟨r, some 1, some 6, rfl, ?_⟩
      simp only [true_and, wpSs, wpS, wpE, wpX, wpO, wpC, wpI, ent, kt0, bindT, bindTs, tgsLen, wipeR, constD, owL, List.map_cons, List.map_nil, List.length_cons, List.length_nil, List.replicate, List.cons_append, List.nil_append, Nat.reduceSub, Nat.reduceAdd, List.getElem?_cons_zero, List.getElem?_cons_succ, List.getElem?_nil, List.set_cons_zero, List.set_cons_succ, opF, cmpF, Bi.fd, Option.map_some, if_true, if_false, Bool.true_eq_false, Bool.false_eq_true, reduceIte, Bool.not_true, Bool.not_false, w_some, w_none, w_fz0, w_fz1, w_t0, w_t1, w_t2, w_t3, w_t4, w_add, w_addL, w_addT, w_sub, w_subB, w_mul, w_mulL, w_mulT, w_mod, w_div, w_lt, w_le, w_gt, w_ge, w_is, w_isnt, w_n0, w_n1, w_n2, w_n3, w_n4, w_neg, w_atL, w_atT, w_lenL, w_lenT, w_tupL, w_tupT, w_lisL, w_lisT, w_abs, w_int, w_intB, w_gcd, w_min, w_max, w_seqL, w_seqT, w_augA, w_augS, w_augM, w_intQ, w_lstQ, w_rng1, w_rng2, w_zipL, w_zipT, w_enum]
      cases hr : isInt r (some 1) (some 6) with
      | false =>
        simp only [true_and, wpSs, wpS, wpE, wpX, wpO, wpC, wpI, ent, kt0, bindT, bindTs, tgsLen, wipeR, constD, owL, List.map_cons, List.map_nil, List.length_cons, List.length_nil, List.replicate, List.cons_append, List.nil_append, Nat.reduceSub, Nat.reduceAdd, List.getElem?_cons_zero, List.getElem?_cons_succ, List.getElem?_nil, List.set_cons_zero, List.set_cons_succ, opF, cmpF, Bi.fd, Option.map_some, if_true, if_false, Bool.true_eq_false, Bool.false_eq_true, reduceIte, Bool.not_true, Bool.not_false, w_some, w_none, w_fz0, w_fz1, w_t0, w_t1, w_t2, w_t3, w_t4, w_add, w_addL, w_addT, w_sub, w_subB, w_mul, w_mulL, w_mulT, w_mod, w_div, w_lt, w_le, w_gt, w_ge, w_is, w_isnt, w_n0, w_n1, w_n2, w_n3, w_n4, w_neg, w_atL, w_atT, w_lenL, w_lenT, w_tupL, w_tupT, w_lisL, w_lisT, w_abs, w_int, w_intB, w_gcd, w_min, w_max, w_seqL, w_seqT, w_augA, w_augS, w_augM, w_intQ, w_lstQ, w_rng1, w_rng2, w_zipL, w_zipT, w_enum]
        cases x with
        | tuple fs => simpa only [isFam, hr, Bool.false_and] using hP
        | _ => exact hP
      | true =>
        simp only [true_and, wpSs, wpS, wpE, wpX, wpO, wpC, wpI, ent, kt0, bindT, bindTs, tgsLen, wipeR, constD, owL, List.map_cons, List.map_nil, List.length_cons, List.length_nil, List.replicate, List.cons_append, List.nil_append, Nat.reduceSub, Nat.reduceAdd, List.getElem?_cons_zero, List.getElem?_cons_succ, List.getElem?_nil, List.set_cons_zero, List.set_cons_succ, opF, cmpF, Bi.fd, Option.map_some, if_true, if_false, Bool.true_eq_false, Bool.false_eq_true, reduceIte, Bool.not_true, Bool.not_false, w_some, w_none, w_fz0, w_fz1, w_t0, w_t1, w_t2, w_t3, w_t4, w_add, w_addL, w_addT, w_sub, w_subB, w_mul, w_mulL, w_mulT, w_mod, w_div, w_lt, w_le, w_gt, w_ge, w_is, w_isnt, w_n0, w_n1, w_n2, w_n3, w_n4, w_neg, w_atL, w_atT, w_lenL, w_lenT, w_tupL, w_tupT, w_lisL, w_lisT, w_abs, w_int, w_intB, w_gcd, w_min, w_max, w_seqL, w_seqT, w_augA, w_augS, w_augM, w_intQ, w_lstQ, w_rng1, w_rng2, w_zipL, w_zipT, w_enum]
        have er := isInt_int hr
        generalize intOf r = ri at er
        subst er
        cases x with
        | none => exact hP
        | str _ => exact hP
        | list _ => exact hP
        | bool _ => exact hP
        | int _ => exact hP
        | dict _ => exact hP
        | tuple fs =>
          have e1 : isiD "tuple" (.tuple fs) = true := rfl
          obtain ⟨ok1, ok2⟩ := ok _ _ rfl
          simp only [isFam, hr, Bool.true_and, intOf] at hP
          rw [e1]
          simp only [true_and, wpSs, wpS, wpE, wpX, wpO, wpC, wpI, ent, kt0, bindT, bindTs, tgsLen, wipeR, constD, owL, List.map_cons, List.map_nil, List.length_cons, List.length_nil, List.replicate, List.cons_append, List.nil_append, Nat.reduceSub, Nat.reduceAdd, List.getElem?_cons_zero, List.getElem?_cons_succ, List.getElem?_nil, List.set_cons_zero, List.set_cons_succ, opF, cmpF, Bi.fd, Option.map_some, if_true, if_false, Bool.true_eq_false, Bool.false_eq_true, reduceIte, Bool.not_true, Bool.not_false, w_some, w_none, w_fz0, w_fz1, w_t0, w_t1, w_t2, w_t3, w_t4, w_add, w_addL, w_addT, w_sub, w_subB, w_mul, w_mulL, w_mulT, w_mod, w_div, w_lt, w_le, w_gt, w_ge, w_is, w_isnt, w_n0, w_n1, w_n2, w_n3, w_n4, w_neg, w_atL, w_atT, w_lenL, w_lenT, w_tupL, w_tupT, w_lisL, w_lisT, w_abs, w_int, w_intB, w_gcd, w_min, w_max, w_seqL, w_seqT, w_augA, w_augS, w_augM, w_intQ, w_lstQ, w_rng1, w_rng2, w_zipL, w_zipT, w_enum, g.mf]
          by_cases h1 : 1 ≤ (fs.length : Int)
          · rw [decide_eq_true h1] at hP ⊢
            simp only [true_and, wpSs, wpS, wpE, wpX, wpO, wpC, wpI, ent, kt0, bindT, bindTs, tgsLen, wipeR, constD, owL, List.map_cons, List.map_nil, List.length_cons, List.length_nil, List.replicate, List.cons_append, List.nil_append, Nat.reduceSub, Nat.reduceAdd, List.getElem?_cons_zero, List.getElem?_cons_succ, List.getElem?_nil, List.set_cons_zero, List.set_cons_succ, opF, cmpF, Bi.fd, Option.map_some, if_true, if_false, Bool.true_eq_false, Bool.false_eq_true, reduceIte, Bool.not_true, Bool.not_false, w_some, w_none, w_fz0, w_fz1, w_t0, w_t1, w_t2, w_t3, w_t4, w_add, w_addL, w_addT, w_sub, w_subB, w_mul, w_mulL, w_mulT, w_mod, w_div, w_lt, w_le, w_gt, w_ge, w_is, w_isnt, w_n0, w_n1, w_n2, w_n3, w_n4, w_neg, w_atL, w_atT, w_lenL, w_lenT, w_tupL, w_tupT, w_lisL, w_lisT, w_abs, w_int, w_intB, w_gcd, w_min, w_max, w_seqL, w_seqT, w_augA, w_augS, w_augM, w_intQ, w_lstQ, w_rng1, w_rng2, w_zipL, w_zipT, w_enum, Bool.true_and] at hP ⊢
            by_cases h2 : (fs.length : Int) ≤ 30
            · rw [decide_eq_true h2] at hP ⊢
              simp only [true_and, wpSs, wpS, wpE, wpX, wpO, wpC, wpI, ent, kt0, bindT, bindTs, tgsLen, wipeR, constD, owL, List.map_cons, List.map_nil, List.length_cons, List.length_nil, List.replicate, List.cons_append, List.nil_append, Nat.reduceSub, Nat.reduceAdd, List.getElem?_cons_zero, List.getElem?_cons_succ, List.getElem?_nil, List.set_cons_zero, List.set_cons_succ, opF, cmpF, Bi.fd, Option.map_some, if_true, if_false, Bool.true_eq_false, Bool.false_eq_true, reduceIte, Bool.not_true, Bool.not_false, w_some, w_none, w_fz0, w_fz1, w_t0, w_t1, w_t2, w_t3, w_t4, w_add, w_addL, w_addT, w_sub, w_subB, w_mul, w_mulL, w_mulT, w_mod, w_div, w_lt, w_le, w_gt, w_ge, w_is, w_isnt, w_n0, w_n1, w_n2, w_n3, w_n4, w_neg, w_atL, w_atT, w_lenL, w_lenT, w_tupL, w_tupT, w_lisL, w_lisT, w_abs, w_int, w_intB, w_gcd, w_min, w_max, w_seqL, w_seqT, w_augA, w_augS, w_augM, w_intQ, w_lstQ, w_rng1, w_rng2, w_zipL, w_zipT, w_enum, Bool.true_and] at hP ⊢
              refine ⟨ok1, ?_⟩
              rw [show foldW _ fs [] _ = foldW _ (fs.map id) [] _ by rw [List.map_id]]
              refine foldW_map (fun x => PyData.bool (isRow x (some 0) (some (ri - 1)))) (fun x acc kk hx hk => ?_) ?_
              · rw [e2]
                exact ⟨x, some 0, some (ri - 1), rfl, ok2 x hx, hk⟩
              · refine dAll_map ?_
                simp only [true_and, wpSs, wpS, wpE, wpX, wpO, wpC, wpI, ent, kt0, bindT, bindTs, tgsLen, wipeR, constD, owL, List.map_cons, List.map_nil, List.length_cons, List.length_nil, List.replicate, List.cons_append, List.nil_append, Nat.reduceSub, Nat.reduceAdd, List.getElem?_cons_zero, List.getElem?_cons_succ, List.getElem?_nil, List.set_cons_zero, List.set_cons_succ, opF, cmpF, Bi.fd, Option.map_some, if_true, if_false, Bool.true_eq_false, Bool.false_eq_true, reduceIte, Bool.not_true, Bool.not_false, w_some, w_none, w_fz0, w_fz1, w_t0, w_t1, w_t2, w_t3, w_t4, w_add, w_addL, w_addT, w_sub, w_subB, w_mul, w_mulL, w_mulT, w_mod, w_div, w_lt, w_le, w_gt, w_ge, w_is, w_isnt, w_n0, w_n1, w_n2, w_n3, w_n4, w_neg, w_atL, w_atT, w_lenL, w_lenT, w_tupL, w_tupT, w_lisL, w_lisT, w_abs, w_int, w_intB, w_gcd, w_min, w_max, w_seqL, w_seqT, w_augA, w_augS, w_augM, w_intQ, w_lstQ, w_rng1, w_rng2, w_zipL, w_zipT, w_enum]
                cases hall : (fs.all fun f => isRow f (some 0) (some (ri - 1))) with
                | false =>
                  rw [hall] at hP
                  simpa only [true_and, wpSs, wpS, wpE, wpX, wpO, wpC, wpI, ent, kt0, bindT, bindTs, tgsLen, wipeR, constD, owL, List.map_cons, List.map_nil, List.length_cons, List.length_nil, List.replicate, List.cons_append, List.nil_append, Nat.reduceSub, Nat.reduceAdd, List.getElem?_cons_zero, List.getElem?_cons_succ, List.getElem?_nil, List.set_cons_zero, List.set_cons_succ, opF, cmpF, Bi.fd, Option.map_some, if_true, if_false, Bool.true_eq_false, Bool.false_eq_true, reduceIte, Bool.not_true, Bool.not_false, w_some, w_none, w_fz0, w_fz1, w_t0, w_t1, w_t2, w_t3, w_t4, w_add, w_addL, w_addT, w_sub, w_subB, w_mul, w_mulL, w_mulT, w_mod, w_div, w_lt, w_le, w_gt, w_ge, w_is, w_isnt, w_n0, w_n1, w_n2, w_n3, w_n4, w_neg, w_atL, w_atT, w_lenL, w_lenT, w_tupL, w_tupT, w_lisL, w_lisT, w_abs, w_int, w_intB, w_gcd, w_min, w_max, w_seqL, w_seqT, w_augA, w_augS, w_augM, w_intQ, w_lstQ, w_rng1, w_rng2, w_zipL, w_zipT, w_enum, Bool.false_and] using hP
                | true =>
                  rw [hall] at hP
                  simp only [Bool.true_and] at hP
                  simp only [true_and, wpSs, wpS, wpE, wpX, wpO, wpC, wpI, ent, kt0, bindT, bindTs, tgsLen, wipeR, constD, owL, List.map_cons, List.map_nil, List.length_cons, List.length_nil, List.replicate, List.cons_append, List.nil_append, Nat.reduceSub, Nat.reduceAdd, List.getElem?_cons_zero, List.getElem?_cons_succ, List.getElem?_nil, List.set_cons_zero, List.set_cons_succ, opF, cmpF, Bi.fd, Option.map_some, if_true, if_false, Bool.true_eq_false, Bool.false_eq_true, reduceIte, Bool.not_true, Bool.not_false, w_some, w_none, w_fz0, w_fz1, w_t0, w_t1, w_t2, w_t3, w_t4, w_add, w_addL, w_addT, w_sub, w_subB, w_mul, w_mulL, w_mulT, w_mod, w_div, w_lt, w_le, w_gt, w_ge, w_is, w_isnt, w_n0, w_n1, w_n2, w_n3, w_n4, w_neg, w_atL, w_atT, w_lenL, w_lenT, w_tupL, w_tupT, w_lisL, w_lisT, w_abs, w_int, w_intB, w_gcd, w_min, w_max, w_seqL, w_seqT, w_augA, w_augS, w_augM, w_intQ, w_lstQ, w_rng1, w_rng2, w_zipL, w_zipT, w_enum]
                  have rows : ∀ f ∈ fs, f = .tuple (tupOf f) := fun f hf => isRow_tup (List.all_eq_true.mp hall f hf)
                  cases fs with
                  | nil => simp at h1
                  | cons f0 fr =>
                    have f0e := rows f0 List.mem_cons_self
                    have eh : (f0 :: fr).headD PyData.none = f0 := rfl
                    rw [eh] at hP
                    simp only [atI0]
                    rw [f0e]
                    generalize hn : tupOf f0 = n0 at *
                    simp only [true_and, wpSs, wpS, wpE, wpX, wpO, wpC, wpI, ent, kt0, bindT, bindTs, tgsLen, wipeR, constD, owL, List.map_cons, List.map_nil, List.length_cons, List.length_nil, List.replicate, List.cons_append, List.nil_append, Nat.reduceSub, Nat.reduceAdd, List.getElem?_cons_zero, List.getElem?_cons_succ, List.getElem?_nil, List.set_cons_zero, List.set_cons_succ, opF, cmpF, Bi.fd, Option.map_some, if_true, if_false, Bool.true_eq_false, Bool.false_eq_true, reduceIte, Bool.not_true, Bool.not_false, w_some, w_none, w_fz0, w_fz1, w_t0, w_t1, w_t2, w_t3, w_t4, w_add, w_addL, w_addT, w_sub, w_subB, w_mul, w_mulL, w_mulT, w_mod, w_div, w_lt, w_le, w_gt, w_ge, w_is, w_isnt, w_n0, w_n1, w_n2, w_n3, w_n4, w_neg, w_atL, w_atT, w_lenL, w_lenT, w_tupL, w_tupT, w_lisL, w_lisT, w_abs, w_int, w_intB, w_gcd, w_min, w_max, w_seqL, w_seqT, w_augA, w_augS, w_augM, w_intQ, w_lstQ, w_rng1, w_rng2, w_zipL, w_zipT, w_enum, g.mks]
                    by_cases h3 : 1 ≤ (n0.length : Int)
                    · rw [decide_eq_true h3] at hP ⊢
                      simp only [true_and, wpSs, wpS, wpE, wpX, wpO, wpC, wpI, ent, kt0, bindT, bindTs, tgsLen, wipeR, constD, owL, List.map_cons, List.map_nil, List.length_cons, List.length_nil, List.replicate, List.cons_append, List.nil_append, Nat.reduceSub, Nat.reduceAdd, List.getElem?_cons_zero, List.getElem?_cons_succ, List.getElem?_nil, List.set_cons_zero, List.set_cons_succ, opF, cmpF, Bi.fd, Option.map_some, if_true, if_false, Bool.true_eq_false, Bool.false_eq_true, reduceIte, Bool.not_true, Bool.not_false, w_some, w_none, w_fz0, w_fz1, w_t0, w_t1, w_t2, w_t3, w_t4, w_add, w_addL, w_addT, w_sub, w_subB, w_mul, w_mulL, w_mulT, w_mod, w_div, w_lt, w_le, w_gt, w_ge, w_is, w_isnt, w_n0, w_n1, w_n2, w_n3, w_n4, w_neg, w_atL, w_atT, w_lenL, w_lenT, w_tupL, w_tupT, w_lisL, w_lisT, w_abs, w_int, w_intB, w_gcd, w_min, w_max, w_seqL, w_seqT, w_augA, w_augS, w_augM, w_intQ, w_lstQ, w_rng1, w_rng2, w_zipL, w_zipT, w_enum, Bool.true_and] at hP ⊢
                      by_cases h4 : (n0.length : Int) ≤ 8
                      · rw [decide_eq_true h4] at hP ⊢
                        simp only [true_and, wpSs, wpS, wpE, wpX, wpO, wpC, wpI, ent, kt0, bindT, bindTs, tgsLen, wipeR, constD, owL, List.map_cons, List.map_nil, List.length_cons, List.length_nil, List.replicate, List.cons_append, List.nil_append, Nat.reduceSub, Nat.reduceAdd, List.getElem?_cons_zero, List.getElem?_cons_succ, List.getElem?_nil, List.set_cons_zero, List.set_cons_succ, opF, cmpF, Bi.fd, Option.map_some, if_true, if_false, Bool.true_eq_false, Bool.false_eq_true, reduceIte, Bool.not_true, Bool.not_false, w_some, w_none, w_fz0, w_fz1, w_t0, w_t1, w_t2, w_t3, w_t4, w_add, w_addL, w_addT, w_sub, w_subB, w_mul, w_mulL, w_mulT, w_mod, w_div, w_lt, w_le, w_gt, w_ge, w_is, w_isnt, w_n0, w_n1, w_n2, w_n3, w_n4, w_neg, w_atL, w_atT, w_lenL, w_lenT, w_tupL, w_tupT, w_lisL, w_lisT, w_abs, w_int, w_intB, w_gcd, w_min, w_max, w_seqL, w_seqT, w_augA, w_augS, w_augM, w_intQ, w_lstQ, w_rng1, w_rng2, w_zipL, w_zipT, w_enum, Bool.true_and] at hP ⊢
                        rw [← f0e]
                        refine ⟨ok1, ?_⟩
                        rw [show foldW _ (f0 :: fr) [] _ = foldW _ ((f0 :: fr).map id) [] _ by rw [List.map_id]]
                        refine foldW_map (fun x => PyData.bool (decide (((tupOf x).length : Int) = n0.length))) (fun x acc kk hx hk => ?_) ?_
                        · have ex := rows x hx
                          generalize tupOf x = nx at *
                          subst ex
                          simp only [id, true_and, wpSs, wpS, wpE, wpX, wpO, wpC, wpI, ent, kt0, bindT, bindTs, tgsLen, wipeR, constD, owL, List.map_cons, List.map_nil, List.length_cons, List.length_nil, List.replicate, List.cons_append, List.nil_append, Nat.reduceSub, Nat.reduceAdd, List.getElem?_cons_zero, List.getElem?_cons_succ, List.getElem?_nil, List.set_cons_zero, List.set_cons_succ, opF, cmpF, Bi.fd, Option.map_some, if_true, if_false, Bool.true_eq_false, Bool.false_eq_true, reduceIte, Bool.not_true, Bool.not_false, w_some, w_none, w_fz0, w_fz1, w_t0, w_t1, w_t2, w_t3, w_t4, w_add, w_addL, w_addT, w_sub, w_subB, w_mul, w_mulL, w_mulT, w_mod, w_div, w_lt, w_le, w_gt, w_ge, w_is, w_isnt, w_n0, w_n1, w_n2, w_n3, w_n4, w_neg, w_atL, w_atT, w_lenL, w_lenT, w_tupL, w_tupT, w_lisL, w_lisT, w_abs, w_int, w_intB, w_gcd, w_min, w_max, w_seqL, w_seqT, w_augA, w_augS, w_augM, w_intQ, w_lstQ, w_rng1, w_rng2, w_zipL, w_zipT, w_enum, atI0]
                          exact dEqI hk
                        · exact dAll_map hP
                      · rw [decide_eq_false h4] at hP ⊢
                        simpa only [true_and, wpSs, wpS, wpE, wpX, wpO, wpC, wpI, ent, kt0, bindT, bindTs, tgsLen, wipeR, constD, owL, List.map_cons, List.map_nil, List.length_cons, List.length_nil, List.replicate, List.cons_append, List.nil_append, Nat.reduceSub, Nat.reduceAdd, List.getElem?_cons_zero, List.getElem?_cons_succ, List.getElem?_nil, List.set_cons_zero, List.set_cons_succ, opF, cmpF, Bi.fd, Option.map_some, if_true, if_false, Bool.true_eq_false, Bool.false_eq_true, reduceIte, Bool.not_true, Bool.not_false, w_some, w_none, w_fz0, w_fz1, w_t0, w_t1, w_t2, w_t3, w_t4, w_add, w_addL, w_addT, w_sub, w_subB, w_mul, w_mulL, w_mulT, w_mod, w_div, w_lt, w_le, w_gt, w_ge, w_is, w_isnt, w_n0, w_n1, w_n2, w_n3, w_n4, w_neg, w_atL, w_atT, w_lenL, w_lenT, w_tupL, w_tupT, w_lisL, w_lisT, w_abs, w_int, w_intB, w_gcd, w_min, w_max, w_seqL, w_seqT, w_augA, w_augS, w_augM, w_intQ, w_lstQ, w_rng1, w_rng2, w_zipL, w_zipT, w_enum, Bool.false_and] using hP
                    · rw [decide_eq_false h3] at hP ⊢
                      simpa only [true_and, wpSs, wpS, wpE, wpX, wpO, wpC, wpI, ent, kt0, bindT, bindTs, tgsLen, wipeR, constD, owL, List.map_cons, List.map_nil, List.length_cons, List.length_nil, List.replicate, List.cons_append, List.nil_append, Nat.reduceSub, Nat.reduceAdd, List.getElem?_cons_zero, List.getElem?_cons_succ, List.getElem?_nil, List.set_cons_zero, List.set_cons_succ, opF, cmpF, Bi.fd, Option.map_some, if_true, if_false, Bool.true_eq_false, Bool.false_eq_true, reduceIte, Bool.not_true, Bool.not_false, w_some, w_none, w_fz0, w_fz1, w_t0, w_t1, w_t2, w_t3, w_t4, w_add, w_addL, w_addT, w_sub, w_subB, w_mul, w_mulL, w_mulT, w_mod, w_div, w_lt, w_le, w_gt, w_ge, w_is, w_isnt, w_n0, w_n1, w_n2, w_n3, w_n4, w_neg, w_atL, w_atT, w_lenL, w_lenT, w_tupL, w_tupT, w_lisL, w_lisT, w_abs, w_int, w_intB, w_gcd, w_min, w_max, w_seqL, w_seqT, w_augA, w_augS, w_augM, w_intQ, w_lstQ, w_rng1, w_rng2, w_zipL, w_zipT, w_enum, Bool.false_and] using hP
            · rw [decide_eq_false h2] at hP ⊢
              simpa only [true_and, wpSs, wpS, wpE, wpX, wpO, wpC, wpI, ent, kt0, bindT, bindTs, tgsLen, wipeR, constD, owL, List.map_cons, List.map_nil, List.length_cons, List.length_nil, List.replicate, List.cons_append, List.nil_append, Nat.reduceSub, Nat.reduceAdd, List.getElem?_cons_zero, List.getElem?_cons_succ, List.getElem?_nil, List.set_cons_zero, List.set_cons_succ, opF, cmpF, Bi.fd, Option.map_some, if_true, if_false, Bool.true_eq_false, Bool.false_eq_true, reduceIte, Bool.not_true, Bool.not_false, w_some, w_none, w_fz0, w_fz1, w_t0, w_t1, w_t2, w_t3, w_t4, w_add, w_addL, w_addT, w_sub, w_subB, w_mul, w_mulL, w_mulT, w_mod, w_div, w_lt, w_le, w_gt, w_ge, w_is, w_isnt, w_n0, w_n1, w_n2, w_n3, w_n4, w_neg, w_atL, w_atT, w_lenL, w_lenT, w_tupL, w_tupT, w_lisL, w_lisT, w_abs, w_int, w_intB, w_gcd, w_min, w_max, w_seqL, w_seqT, w_augA, w_augS, w_augM, w_intQ, w_lstQ, w_rng1, w_rng2, w_zipL, w_zipT, w_enum, Bool.false_and] using hP
          · rw [decide_eq_false h1] at hP ⊢
            simpa only [true_and, wpSs, wpS, wpE, wpX, wpO, wpC, wpI, ent, kt0, bindT, bindTs, tgsLen, wipeR, constD, owL, List.map_cons, List.map_nil, List.length_cons, List.length_nil, List.replicate, List.cons_append, List.nil_append, Nat.reduceSub, Nat.reduceAdd, List.getElem?_cons_zero, List.getElem?_cons_succ, List.getElem?_nil, List.set_cons_zero, List.set_cons_succ, opF, cmpF, Bi.fd, Option.map_some, if_true, if_false, Bool.true_eq_false, Bool.false_eq_true, reduceIte, Bool.not_true, Bool.not_false, w_some, w_none, w_fz0, w_fz1, w_t0, w_t1, w_t2, w_t3, w_t4, w_add, w_addL, w_addT, w_sub, w_subB, w_mul, w_mulL, w_mulT, w_mod, w_div, w_lt, w_le, w_gt, w_ge, w_is, w_isnt, w_n0, w_n1, w_n2, w_n3, w_n4, w_neg, w_atL, w_atT, w_lenL, w_lenT, w_tupL, w_tupT, w_lisL, w_lisT, w_abs, w_int, w_intB, w_gcd, w_min, w_max, w_seqL, w_seqT, w_augA, w_augS, w_augM, w_intQ, w_lstQ, w_rng1, w_rng2, w_zipL, w_zipT, w_enum, Bool.false_and] using hP
def φ_check_family : Phi := fun as P PE => ∃ d : D, as = [.fz d] ∧ famOk d ∧ (isFam d = true → P .none) ∧ (isFam d = false → PE "NotAllowed")
theorem imp_check_family {Γ : Gam} (e : Γ.Φ "is_family" = φ_is_family) (as : List Sl) (P : D → Prop) (PE : Str → Prop) (h : φ_check_family as P PE) : spW Γ d_check_family as P PE := by
  obtain ⟨d, rfl, ok, h1, h2⟩ := h
  refine ⟨rfl, ?_⟩
  simp only [d_check_family, true_and, wpSs, wpS, wpE, wpX, wpO, wpC, wpI, ent, kt0, bindT, bindTs, tgsLen, wipeR, constD, owL, List.map_cons, List.map_nil, List.length_cons, List.length_nil, List.replicate, List.cons_append, List.nil_append, Nat.reduceSub, Nat.reduceAdd, List.getElem?_cons_zero, List.getElem?_cons_succ, List.getElem?_nil, List.set_cons_zero, List.set_cons_succ, opF, cmpF, Bi.fd, Option.map_some, if_true, if_false, Bool.true_eq_false, Bool.false_eq_true, reduceIte, Bool.not_true, Bool.not_false, w_some, w_none, w_fz0, w_fz1, w_t0, w_t1, w_t2, w_t3, w_t4, w_add, w_addL, w_addT, w_sub, w_subB, w_mul, w_mulL, w_mulT, w_mod, w_div, w_lt, w_le, w_gt, w_ge, w_is, w_isnt, w_n0, w_n1, w_n2, w_n3, w_n4, w_neg, w_atL, w_atT, w_lenL, w_lenT, w_tupL, w_tupT, w_lisL, w_lisT, w_abs, w_int, w_intB, w_gcd, w_min, w_max, w_seqL, w_seqT, w_augA, w_augS, w_augM, w_intQ, w_lstQ, w_rng1, w_rng2, w_zipL, w_zipT, w_enum]
  rw [e]
  refine ⟨d, rfl, ok, ?_⟩
  cases hd : isFam d with
  | true =>
    simp only [true_and, wpSs, wpS, wpE, wpX, wpO, wpC, wpI, ent, kt0, bindT, bindTs, tgsLen, wipeR, constD, owL, List.map_cons, List.map_nil, List.length_cons, List.length_nil, List.replicate, List.cons_append, List.nil_append, Nat.reduceSub, Nat.reduceAdd, List.getElem?_cons_zero, List.getElem?_cons_succ, List.getElem?_nil, List.set_cons_zero, List.set_cons_succ, opF, cmpF, Bi.fd, Option.map_some, if_true, if_false, Bool.true_eq_false, Bool.false_eq_true, reduceIte, Bool.not_true, Bool.not_false, w_some, w_none, w_fz0, w_fz1, w_t0, w_t1, w_t2, w_t3, w_t4, w_add, w_addL, w_addT, w_sub, w_subB, w_mul, w_mulL, w_mulT, w_mod, w_div, w_lt, w_le, w_gt, w_ge, w_is, w_isnt, w_n0, w_n1, w_n2, w_n3, w_n4, w_neg, w_atL, w_atT, w_lenL, w_lenT, w_tupL, w_tupT, w_lisL, w_lisT, w_abs, w_int, w_intB, w_gcd, w_min, w_max, w_seqL, w_seqT, w_augA, w_augS, w_augM, w_intQ, w_lstQ, w_rng1, w_rng2, w_zipL, w_zipT, w_enum]
    exact h1 hd
  | false =>
    simp only [true_and, wpSs, wpS, wpE, wpX, wpO, wpC, wpI, ent, kt0, bindT, bindTs, tgsLen, wipeR, constD, owL, List.map_cons, List.map_nil, List.length_cons, List.length_nil, List.replicate, List.cons_append, List.nil_append, Nat.reduceSub, Nat.reduceAdd, List.getElem?_cons_zero, List.getElem?_cons_succ, List.getElem?_nil, List.set_cons_zero, List.set_cons_succ, opF, cmpF, Bi.fd, Option.map_some, if_true, if_false, Bool.true_eq_false, Bool.false_eq_true, reduceIte, Bool.not_true, Bool.not_false, w_some, w_none, w_fz0, w_fz1, w_t0, w_t1, w_t2, w_t3, w_t4, w_add, w_addL, w_addT, w_sub, w_subB, w_mul, w_mulL, w_mulT, w_mod, w_div, w_lt, w_le, w_gt, w_ge, w_is, w_isnt, w_n0, w_n1, w_n2, w_n3, w_n4, w_neg, w_atL, w_atT, w_lenL, w_lenT, w_tupL, w_tupT, w_lisL, w_lisT, w_abs, w_int, w_intB, w_gcd, w_min, w_max, w_seqL, w_seqT, w_augA, w_augS, w_augM, w_intQ, w_lstQ, w_rng1, w_rng2, w_zipL, w_zipT, w_enum]
    exact h2 hd
def φ__law_refused : Phi := fun as P PE => ∃ d : D, as = [.fz d] ∧ famOk d ∧ P (.bool (!isFam d))
theorem imp__law_refused {Γ : Gam} (e : Γ.Φ "check_family" = φ_check_family) (hx : ("NotAllowed" : Str) ∈ Γ.exs) (as : List Sl) (P : D → Prop) (PE : Str → Prop) (h : φ__law_refused as P PE) : spW Γ d__law_refused as P PE := by
  obtain ⟨d, rfl, ok, hP⟩ := h
  refine ⟨rfl, ?_⟩
  simp only [d__law_refused, true_and, wpSs, wpS, wpE, wpX, wpO, wpC, wpI, ent, kt0, bindT, bindTs, tgsLen, wipeR, constD, owL, List.map_cons, List.map_nil, List.length_cons, List.length_nil, List.replicate, List.cons_append, List.nil_append, Nat.reduceSub, Nat.reduceAdd, List.getElem?_cons_zero, List.getElem?_cons_succ, List.getElem?_nil, List.set_cons_zero, List.set_cons_succ, opF, cmpF, Bi.fd, Option.map_some, if_true, if_false, Bool.true_eq_false, Bool.false_eq_true, reduceIte, Bool.not_true, Bool.not_false, w_some, w_none, w_fz0, w_fz1, w_t0, w_t1, w_t2, w_t3, w_t4, w_add, w_addL, w_addT, w_sub, w_subB, w_mul, w_mulL, w_mulT, w_mod, w_div, w_lt, w_le, w_gt, w_ge, w_is, w_isnt, w_n0, w_n1, w_n2, w_n3, w_n4, w_neg, w_atL, w_atT, w_lenL, w_lenT, w_tupL, w_tupT, w_lisL, w_lisT, w_abs, w_int, w_intB, w_gcd, w_min, w_max, w_seqL, w_seqT, w_augA, w_augS, w_augM, w_intQ, w_lstQ, w_rng1, w_rng2, w_zipL, w_zipT, w_enum]
  rw [e]
  refine ⟨d, rfl, ok, fun h => ?_, fun h => ⟨hx, ?_⟩⟩
  · rw [h] at hP
    exact hP
  · rw [if_pos rfl]
    rw [h] at hP
    exact hP
end DL

set_option Elab.async false
set_option linter.all false
set_option maxRecDepth 100000
set_option maxHeartbeats 4000000
namespace DL
open PySem PySem.Spec PyProof.Rows L2
/-! ### more loops -/
theorem forW_allB {α : Type} {emb : α → D} {body : D → Rho → (Rho → Prop) → Prop} {Q : Rho → Prop} {l : List α} {J : Rho → Prop} {R : Prop} {c : α → Bool} {ρ : Rho} (h0 : J ρ)
    (hs : ∀ x ρ kk, x ∈ l → J ρ → (c x = true → ∀ ρ', J ρ' → kk ρ') → (c x = false → R) → body (emb x) ρ kk) (h1 : l.all c = true → ∀ ρ, J ρ → Q ρ) (h2 : l.all c = false → R) : forW body (l.map emb) ρ Q := by
  refine forW_inv (I := fun done ρ => J ρ ∧ done.all c = true) ⟨h0, rfl⟩ (fun done x rest ρ kk e h hk => ?_) (fun ρ h => h1 h.2 ρ h.1)
  refine hs x ρ kk (by rw [e]; simp) h.1 (fun hc ρ' hj => hk ρ' ⟨hj, by rw [List.all_append, h.2]; simp [hc]⟩) (fun hc => h2 ?_)
  rw [e, List.all_append, List.all_cons, hc]
  simp
theorem foldW_mapA {α : Type} {emb : α → D} {step : D → List D → (List D → Prop) → Prop} {Q : List D → Prop} {l : List α} {acc : List D} (g : α → D)
    (hs : ∀ x acc kk, x ∈ l → acc.length < acc.length + 1 → kk (acc ++ [g x]) → step (emb x) acc kk) (hd : Q (acc ++ l.map g)) : foldW step (l.map emb) acc Q := by
  refine foldW_inv (I := fun done a => a = acc ++ done.map g) (by simp) (fun done x rest a kk e h hk => ?_) (fun a h => by rw [h]; exact hd)
  refine hs x a kk (by rw [e]; simp) (by omega) (hk _ ?_)
  rw [h, List.map_append, ← List.append_assoc]
  rfl
/-- a bound holds of what is gathered -/
theorem foldW_mapB {α : Type} {emb : α → D} {step : D → List D → (List D → Prop) → Prop} {Q : List D → Prop} {l : List α} {acc : List D} (g : α → D) (N : Nat) (hN : acc.length + l.length ≤ N)
    (hs : ∀ x acc kk, x ∈ l → acc.length < N → kk (acc ++ [g x]) → step (emb x) acc kk) (hd : Q (acc ++ l.map g)) : foldW step (l.map emb) acc Q := by
  refine foldW_inv (I := fun done a => a = acc ++ done.map g) (by simp) (fun done x rest a kk e h hk => ?_) (fun a h => by rw [h]; exact hd)
  refine hs x a kk (by rw [e]; simp) ?_ (hk _ ?_)
  · rw [h, List.length_append, List.length_map]
    have : l.length = done.length + (rest.length + 1) := by rw [e]; simp
    omega
  · rw [h, List.map_append, ← List.append_assoc]
    rfl
theorem foldW_flat {α : Type} {emb : α → D} {step : D → List D → (List D → Prop) → Prop} {Q : List D → Prop} {l : List α} (g : α → List D) (N : Nat) (hN : ∀ x ∈ l, (g x).length ≤ N)
    (hs : ∀ x acc kk, x ∈ l → acc.length ≤ (l.length - 1) * N → kk (acc ++ g x) → step (emb x) acc kk) (hd : Q (l.flatMap g)) : foldW step (l.map emb) [] Q := by
  refine foldW_inv (I := fun done a => a = done.flatMap g) rfl (fun done x rest a kk e h hk => ?_) (fun a h => by rw [h]; exact hd)
  refine hs x a kk (by rw [e]; simp) ?_ (hk _ ?_)
  · rw [h]
    have h1 : ∀ d : List α, (∀ x ∈ d, (g x).length ≤ N) → (d.flatMap g).length ≤ d.length * N := by
      intro d
      induction d with
      | nil => intro _; simp
      | cons y d ih =>
        intro hy
        have := ih fun z hz => hy z (List.mem_cons_of_mem _ hz)
        have := hy y List.mem_cons_self
        rw [List.flatMap_cons, List.length_append, List.length_cons, Nat.add_mul]
        omega
    have h2 := h1 done fun z hz => hN z (by rw [e]; simp [hz])
    have h3 : done.length ≤ l.length - 1 := by rw [e]; simp
    exact Nat.le_trans h2 (Nat.mul_le_mul_right _ h3)
  · rw [h, List.flatMap_append]
    simp
theorem rangeD_map (lo : Int) (n : Nat) : rangeD lo n = (List.range n).map fun (i : Nat) => PyData.int (lo + i) := rfl
theorem rangeD0 (n : Nat) : rangeD 0 n = (List.range n).map fun (i : Nat) => PyData.int i := by
  unfold rangeD
  congr 1
  funext i
  rw [Int.zero_add]
theorem rngOk_small {i : Int} (h : -1000000 ≤ i) (h2 : i ≤ 1000000) : rngOk i := ⟨by omega, by omega⟩
/-! ### meeting -/
def gx (f : List Int) (a : Nat) : Int := f.getD a 0
theorem atI_row {f : List Int} {a : Nat} (h : a < f.length) : atI (f.map PyData.int) (a : Int) = some (.int (gx f a)) := by
  refine atI_nat ?_
  rw [List.getElem?_map, List.getElem?_eq_getElem h]
  unfold gx
  rw [List.getD_eq_getElem?_getD, List.getElem?_eq_getElem h]
  rfl
def cnt (fs : List (List Int)) (a b : Nat) : Int := ((fs.filter fun f => decide (gx f a = gx f b)).length : Nat)
def met (fs : List (List Int)) (a b : Nat) : Rat := Rat.divInt (cnt fs a b) fs.length
theorem small {n : Nat} (h : n ≤ 1000) : n ≤ sizeLine := Nat.le_of_lt (small1000 h)
def φ_meeting : Phi := fun as P _ => ∃ (r : Int) (n : Nat) (fs : List (List Int)) (a b : Nat), as = [.fz (famD r fs), .fz (.int a), .fz (.int b)] ∧ Fam r n fs ∧ a < n ∧ b < n ∧ P (qD (met fs a b))
theorem Fam.bd {r : Int} {n : Nat} {fs : List (List Int)} (h : Fam r n fs) : Bd 5 (fs.length : Int) := by
  have := h.f30
  show (fs.length : Int).natAbs < 2 ^ 5
  rw [Int.natAbs_natCast]
  omega
theorem imp_meeting {Γ : Gam} (e : Γ.Φ "lowest" = φ_lowest) (as : List Sl) (P : D → Prop) (PE : Str → Prop) (h : φ_meeting as P PE) : spW Γ d_meeting as P PE := by
  obtain ⟨r, n, fs, a, b, rfl, hF, ha, hb, hP⟩ := h
  refine ⟨rfl, ?_⟩
  simp only [d_meeting, famD, true_and, wpSs, wpS, wpE, wpX, wpO, wpC, wpI, ent, kt0, bindT, bindTs, tgsLen, wipeR, constD, owL, List.map_cons, List.map_nil, List.length_cons, List.length_nil, List.replicate, List.cons_append, List.nil_append, Nat.reduceSub, Nat.reduceAdd, List.getElem?_cons_zero, List.getElem?_cons_succ, List.getElem?_nil, List.set_cons_zero, List.set_cons_succ, opF, cmpF, Bi.fd, Option.map_some, if_true, if_false, Bool.true_eq_false, Bool.false_eq_true, reduceIte, Bool.not_true, Bool.not_false, w_some, w_none, w_fz0, w_fz1, w_t0, w_t1, w_t2, w_t3, w_t4, w_add, w_addL, w_addT, w_sub, w_subB, w_mul, w_mulL, w_mulT, w_mod, w_div, w_lt, w_le, w_gt, w_ge, w_is, w_isnt, w_n0, w_n1, w_n2, w_n3, w_n4, w_neg, w_atL, w_atT, w_lenL, w_lenT, w_tupL, w_tupT, w_lisL, w_lisT, w_abs, w_int, w_intB, w_gcd, w_min, w_max, w_seqL, w_seqT, w_augA, w_augS, w_augM, w_intQ, w_lstQ, w_rng1, w_rng2, w_zipL, w_zipT, w_enum, atI1]
  have hf30 := hF.f30
  refine ⟨by rw [List.length_map]; exact small (by omega), ?_⟩
  refine foldW_filter (fun f => decide (gx f a = gx f b)) rowI (fun f acc kk hf hk => ?_) ?_
  · have hl := hF.len f hf
    simp only [rowI, true_and, wpSs, wpS, wpE, wpX, wpO, wpC, wpI, ent, kt0, bindT, bindTs, tgsLen, wipeR, constD, owL, List.map_cons, List.map_nil, List.length_cons, List.length_nil, List.replicate, List.cons_append, List.nil_append, Nat.reduceSub, Nat.reduceAdd, List.getElem?_cons_zero, List.getElem?_cons_succ, List.getElem?_nil, List.set_cons_zero, List.set_cons_succ, opF, cmpF, Bi.fd, Option.map_some, if_true, if_false, Bool.true_eq_false, Bool.false_eq_true, reduceIte, Bool.not_true, Bool.not_false, w_some, w_none, w_fz0, w_fz1, w_t0, w_t1, w_t2, w_t3, w_t4, w_add, w_addL, w_addT, w_sub, w_subB, w_mul, w_mulL, w_mulT, w_mod, w_div, w_lt, w_le, w_gt, w_ge, w_is, w_isnt, w_n0, w_n1, w_n2, w_n3, w_n4, w_neg, w_atL, w_atT, w_lenL, w_lenT, w_tupL, w_tupT, w_lisL, w_lisT, w_abs, w_int, w_intB, w_gcd, w_min, w_max, w_seqL, w_seqT, w_augA, w_augS, w_augM, w_intQ, w_lstQ, w_rng1, w_rng2, w_zipL, w_zipT, w_enum, atI_row (show a < f.length by omega), atI_row (show b < f.length by omega)]
    refine dEqI ?_
    simp only [true_and, wpSs, wpS, wpE, wpX, wpO, wpC, wpI, ent, kt0, bindT, bindTs, tgsLen, wipeR, constD, owL, List.map_cons, List.map_nil, List.length_cons, List.length_nil, List.replicate, List.cons_append, List.nil_append, Nat.reduceSub, Nat.reduceAdd, List.getElem?_cons_zero, List.getElem?_cons_succ, List.getElem?_nil, List.set_cons_zero, List.set_cons_succ, opF, cmpF, Bi.fd, Option.map_some, if_true, if_false, Bool.true_eq_false, Bool.false_eq_true, reduceIte, Bool.not_true, Bool.not_false, w_some, w_none, w_fz0, w_fz1, w_t0, w_t1, w_t2, w_t3, w_t4, w_add, w_addL, w_addT, w_sub, w_subB, w_mul, w_mulL, w_mulT, w_mod, w_div, w_lt, w_le, w_gt, w_ge, w_is, w_isnt, w_n0, w_n1, w_n2, w_n3, w_n4, w_neg, w_atL, w_atT, w_lenL, w_lenT, w_tupL, w_tupT, w_lisL, w_lisT, w_abs, w_int, w_intB, w_gcd, w_min, w_max, w_seqL, w_seqT, w_augA, w_augS, w_augM, w_intQ, w_lstQ, w_rng1, w_rng2, w_zipL, w_zipT, w_enum]
    by_cases hc : gx f a = gx f b
    · rw [decide_eq_true hc] at hk ⊢
      exact hk
    · rw [decide_eq_false hc] at hk ⊢
      exact hk
  · rw [e]
    have hf1 := hF.f1
    refine ⟨_, _, 5, rfl, by rw [List.length_map]; omega, by rw [List.length_map]; exact hF.bd, by decide, ?_⟩
    rw [List.length_map, List.length_map]
    exact hP
/-! ### pairs of keys -/
def pairD (p : Nat × Nat) : D := .tuple [.int p.1, .int p.2]
def pairsK (n : Nat) : List (Nat × Nat) := (List.range n).flatMap fun a => (List.range (n - (a + 1))).map fun k => (a, a + 1 + k)
def pairsA (n : Nat) : List (Nat × Nat) := (List.range n).flatMap fun a => (List.range n).map fun b => (a, b)
theorem mem_pairsK {n : Nat} {p : Nat × Nat} : p ∈ pairsK n ↔ p.1 < p.2 ∧ p.2 < n := by
  unfold pairsK
  simp only [List.mem_flatMap, List.mem_range, List.mem_map]
  constructor
  · rintro ⟨a, ha, k, hk, rfl⟩
    exact ⟨by simp; omega, by simp; omega⟩
  · rintro ⟨h1, h2⟩
    exact ⟨p.1, by omega, p.2 - (p.1 + 1), by omega, Prod.ext rfl (by simp; omega)⟩
theorem mem_pairsA {n : Nat} {p : Nat × Nat} : p ∈ pairsA n ↔ p.1 < n ∧ p.2 < n := by
  unfold pairsA
  simp only [List.mem_flatMap, List.mem_range, List.mem_map]
  constructor
  · rintro ⟨a, ha, k, hk, rfl⟩
    exact ⟨ha, hk⟩
  · rintro ⟨h1, h2⟩
    exact ⟨p.1, h1, p.2, h2, rfl⟩
def φ_pairs_of_keys : Phi := fun as P _ => ∃ (r : Int) (n : Nat) (fs : List (List Int)), as = [.fz (famD r fs)] ∧ Fam r n fs ∧ P (.list ((pairsK n).map pairD))
theorem Fam.head {r : Int} {n : Nat} {fs : List (List Int)} (h : Fam r n fs) : ∃ f0 fr, fs = f0 :: fr ∧ f0.length = n := by
  have h1 := h.f1
  cases fs with
  | nil => simp at h1
  | cons f0 fr => exact ⟨f0, fr, rfl, h.len f0 List.mem_cons_self⟩
theorem imp_pairs_of_keys {Γ : Gam} (as : List Sl) (P : D → Prop) (PE : Str → Prop) (h : φ_pairs_of_keys as P PE) : spW Γ d_pairs_of_keys as P PE := by
  obtain ⟨r, n, fs, rfl, hF, hP⟩ := h
  refine ⟨rfl, ?_⟩
  obtain ⟨f0, fr, rfl, hn⟩ := hF.head
  have hn8 := hF.n8
  simp only [d_pairs_of_keys, famD, rowI, true_and, wpSs, wpS, wpE, wpX, wpO, wpC, wpI, ent, kt0, bindT, bindTs, tgsLen, wipeR, constD, owL, List.map_cons, List.map_nil, List.length_cons, List.length_nil, List.replicate, List.cons_append, List.nil_append, Nat.reduceSub, Nat.reduceAdd, List.getElem?_cons_zero, List.getElem?_cons_succ, List.getElem?_nil, List.set_cons_zero, List.set_cons_succ, opF, cmpF, Bi.fd, Option.map_some, if_true, if_false, Bool.true_eq_false, Bool.false_eq_true, reduceIte, Bool.not_true, Bool.not_false, w_some, w_none, w_fz0, w_fz1, w_t0, w_t1, w_t2, w_t3, w_t4, w_add, w_addL, w_addT, w_sub, w_subB, w_mul, w_mulL, w_mulT, w_mod, w_div, w_lt, w_le, w_gt, w_ge, w_is, w_isnt, w_n0, w_n1, w_n2, w_n3, w_n4, w_neg, w_atL, w_atT, w_lenL, w_lenT, w_tupL, w_tupT, w_lisL, w_lisT, w_abs, w_int, w_intB, w_gcd, w_min, w_max, w_seqL, w_seqT, w_augA, w_augS, w_augM, w_intQ, w_lstQ, w_rng1, w_rng2, w_zipL, w_zipT, w_enum, atI0, atI1, List.length_map]
  rw [hn]
  refine ⟨rngOk_small (by omega) (by omega), ?_⟩
  rw [Int.toNat_natCast, rangeD0]
  refine foldW_flat (fun a => ((List.range (n - (a + 1))).map fun k => (a, a + 1 + k)).map pairD) 8 (fun x _ => by simp; omega) (fun a acc kk ha hacc hk => ?_) ?_
  · simp only [slotsT, true_and, wpSs, wpS, wpE, wpX, wpO, wpC, wpI, ent, kt0, bindT, bindTs, tgsLen, wipeR, constD, owL, List.map_cons, List.map_nil, List.length_cons, List.length_nil, List.replicate, List.cons_append, List.nil_append, Nat.reduceSub, Nat.reduceAdd, List.getElem?_cons_zero, List.getElem?_cons_succ, List.getElem?_nil, List.set_cons_zero, List.set_cons_succ, opF, cmpF, Bi.fd, Option.map_some, if_true, if_false, Bool.true_eq_false, Bool.false_eq_true, reduceIte, Bool.not_true, Bool.not_false, w_some, w_none, w_fz0, w_fz1, w_t0, w_t1, w_t2, w_t3, w_t4, w_add, w_addL, w_addT, w_sub, w_subB, w_mul, w_mulL, w_mulT, w_mod, w_div, w_lt, w_le, w_gt, w_ge, w_is, w_isnt, w_n0, w_n1, w_n2, w_n3, w_n4, w_neg, w_atL, w_atT, w_lenL, w_lenT, w_tupL, w_tupT, w_lisL, w_lisT, w_abs, w_int, w_intB, w_gcd, w_min, w_max, w_seqL, w_seqT, w_augA, w_augS, w_augM, w_intQ, w_lstQ, w_rng1, w_rng2, w_zipL, w_zipT, w_enum]
    rw [List.mem_range] at ha
    rw [List.length_range] at hacc
    refine ⟨rngOk_small (by omega) (by omega), rngOk_small (by omega) (by omega), ?_⟩
    rw [show ((n : Int) - (a + 1)).toNat = n - (a + 1) by omega, rangeD_map]
    refine foldW_mapB (fun k => pairD (a, a + 1 + k)) 1000 (by rw [List.length_range]; have : (n - 1) * 8 ≤ 7 * 8 := Nat.mul_le_mul_right _ (by omega); omega) (fun k acc kk hk2 hacc hk => ?_) ?_
    · refine ⟨small1000 (by omega), ?_⟩
      exact hk
    · rw [List.map_map] at hk
      exact hk
  · show P (.list _)
    unfold pairsK at hP
    rw [List.map_flatMap] at hP
    exact hP
def φ__law_pairs_below : Phi := fun as P _ => ∃ n : Nat, as = [.fz (.int n)] ∧ n ≤ 30 ∧ P (.list ((pairsA n).map pairD))
theorem imp__law_pairs_below {Γ : Gam} (as : List Sl) (P : D → Prop) (PE : Str → Prop) (h : φ__law_pairs_below as P PE) : spW Γ d__law_pairs_below as P PE := by
  obtain ⟨n, rfl, hn, hP⟩ := h
  refine ⟨rfl, ?_⟩
  simp only [d__law_pairs_below, true_and, wpSs, wpS, wpE, wpX, wpO, wpC, wpI, ent, kt0, bindT, bindTs, tgsLen, wipeR, constD, owL, List.map_cons, List.map_nil, List.length_cons, List.length_nil, List.replicate, List.cons_append, List.nil_append, Nat.reduceSub, Nat.reduceAdd, List.getElem?_cons_zero, List.getElem?_cons_succ, List.getElem?_nil, List.set_cons_zero, List.set_cons_succ, opF, cmpF, Bi.fd, Option.map_some, if_true, if_false, Bool.true_eq_false, Bool.false_eq_true, reduceIte, Bool.not_true, Bool.not_false, w_some, w_none, w_fz0, w_fz1, w_t0, w_t1, w_t2, w_t3, w_t4, w_add, w_addL, w_addT, w_sub, w_subB, w_mul, w_mulL, w_mulT, w_mod, w_div, w_lt, w_le, w_gt, w_ge, w_is, w_isnt, w_n0, w_n1, w_n2, w_n3, w_n4, w_neg, w_atL, w_atT, w_lenL, w_lenT, w_tupL, w_tupT, w_lisL, w_lisT, w_abs, w_int, w_intB, w_gcd, w_min, w_max, w_seqL, w_seqT, w_augA, w_augS, w_augM, w_intQ, w_lstQ, w_rng1, w_rng2, w_zipL, w_zipT, w_enum]
  refine ⟨rngOk_small (by omega) (by omega), ?_⟩
  rw [Int.toNat_natCast, rangeD0]
  refine forW_inv (I := fun done ρ => ∃ y, ρ = [some (.fz (.int n)), some (.fz (.list ((done.flatMap fun a => (List.range n).map fun b => (a, b)).map pairD))), y, none] ∧ (done.flatMap fun a => (List.range n).map fun b => (a, b)).length ≤ done.length * 30) ⟨none, rfl, by simp⟩ (fun done a rest ρ kk el hI hk => ?_) (fun ρ hI => ?_)
  · obtain ⟨y, rfl, hlen⟩ := hI
    have hdl : done.length + 1 ≤ n := by
      have := congrArg List.length el
      rw [List.length_range, List.length_append, List.length_cons] at this
      omega
    simp only [true_and, wpSs, wpS, wpE, wpX, wpO, wpC, wpI, ent, kt0, bindT, bindTs, tgsLen, wipeR, constD, owL, List.map_cons, List.map_nil, List.length_cons, List.length_nil, List.replicate, List.cons_append, List.nil_append, Nat.reduceSub, Nat.reduceAdd, List.getElem?_cons_zero, List.getElem?_cons_succ, List.getElem?_nil, List.set_cons_zero, List.set_cons_succ, opF, cmpF, Bi.fd, Option.map_some, if_true, if_false, Bool.true_eq_false, Bool.false_eq_true, reduceIte, Bool.not_true, Bool.not_false, w_some, w_none, w_fz0, w_fz1, w_t0, w_t1, w_t2, w_t3, w_t4, w_add, w_addL, w_addT, w_sub, w_subB, w_mul, w_mulL, w_mulT, w_mod, w_div, w_lt, w_le, w_gt, w_ge, w_is, w_isnt, w_n0, w_n1, w_n2, w_n3, w_n4, w_neg, w_atL, w_atT, w_lenL, w_lenT, w_tupL, w_tupT, w_lisL, w_lisT, w_abs, w_int, w_intB, w_gcd, w_min, w_max, w_seqL, w_seqT, w_augA, w_augS, w_augM, w_intQ, w_lstQ, w_rng1, w_rng2, w_zipL, w_zipT, w_enum]
    refine ⟨rngOk_small (by omega) (by omega), ?_⟩
    rw [Int.toNat_natCast, rangeD0]
    refine ⟨by rw [List.length_map, List.length_range]; exact small (by omega), ?_⟩
    refine foldW_map (fun b => pairD (a, b)) (fun b acc kk hb hk => ?_) ?_
    · exact hk
    · refine ⟨?_, hk _ ⟨some (.fz (.int a)), ?_, ?_⟩⟩
      · simp only [List.length_map, List.length_range]
        refine small ?_
        have : done.length * 30 ≤ 29 * 30 := Nat.mul_le_mul_right _ (by omega)
        omega
      · rw [List.flatMap_append, List.map_append]
        simp [List.map_map, Function.comp_def]
      · rw [List.flatMap_append, List.length_append, List.length_append]
        simp only [List.flatMap_cons, List.flatMap_nil, List.append_nil, List.length_map, List.length_range, List.length_cons, List.length_nil]
        omega
  · obtain ⟨y, rfl, _⟩ := hI
    simp only [true_and, wpSs, wpS, wpE, wpX, wpO, wpC, wpI, ent, kt0, bindT, bindTs, tgsLen, wipeR, constD, owL, List.map_cons, List.map_nil, List.length_cons, List.length_nil, List.replicate, List.cons_append, List.nil_append, Nat.reduceSub, Nat.reduceAdd, List.getElem?_cons_zero, List.getElem?_cons_succ, List.getElem?_nil, List.set_cons_zero, List.set_cons_succ, opF, cmpF, Bi.fd, Option.map_some, if_true, if_false, Bool.true_eq_false, Bool.false_eq_true, reduceIte, Bool.not_true, Bool.not_false, w_some, w_none, w_fz0, w_fz1, w_t0, w_t1, w_t2, w_t3, w_t4, w_add, w_addL, w_addT, w_sub, w_subB, w_mul, w_mulL, w_mulT, w_mod, w_div, w_lt, w_le, w_gt, w_ge, w_is, w_isnt, w_n0, w_n1, w_n2, w_n3, w_n4, w_neg, w_atL, w_atT, w_lenL, w_lenT, w_tupL, w_tupT, w_lisL, w_lisT, w_abs, w_int, w_intB, w_gcd, w_min, w_max, w_seqL, w_seqT, w_augA, w_augS, w_augM, w_intQ, w_lstQ, w_rng1, w_rng2, w_zipL, w_zipT, w_enum]
    exact hP
end DL

set_option Elab.async false
set_option linter.all false
set_option maxRecDepth 100000
set_option maxHeartbeats 4000000
namespace DL
open PySem PySem.Spec PyProof.Rows L2
/-! ### universal, independent -/
def univB (r : Int) (n : Nat) (fs : List (List Int)) : Bool := (pairsK n).all fun p => decide (met fs p.1 p.2 ≤ Rat.divInt 1 r)
theorem cnt_le (fs : List (List Int)) (a b : Nat) : 0 ≤ cnt fs a b ∧ cnt fs a b ≤ fs.length := by
  unfold cnt
  have := List.length_filter_le (fun f => decide (gx f a = gx f b)) fs
  omega
theorem bd5 {i : Int} (h : -32 < i) (h2 : i < 32) : Bd 5 i := by
  show i.natAbs < 2 ^ 5
  omega
theorem Fam.met_sz {r : Int} {n : Nat} {fs : List (List Int)} (h : Fam r n fs) (a b : Nat) : Sz 5 (met fs a b) := by
  have h1 := h.f1
  have h2 := h.f30
  obtain ⟨c1, c2⟩ := cnt_le fs a b
  exact Sz.divInt (bd5 (by omega) (by omega)) h.bd (by omega) (Nat.le_refl _) (Nat.le_refl _)
theorem Fam.inv_sz {r : Int} {n : Nat} {fs : List (List Int)} (h : Fam r n fs) : Sz 5 (Rat.divInt 1 r) := by
  have h1 := h.r1
  have h2 := h.r6
  exact Sz.divInt (bd5 (by omega) (by omega)) (bd5 (by omega) (by omega)) (by omega) (Nat.le_refl _) (Nat.le_refl _)
def φ_is_universal : Phi := fun as P _ => ∃ (r : Int) (n : Nat) (fs : List (List Int)), as = [.fz (famD r fs)] ∧ Fam r n fs ∧ P (.bool (univB r n fs))
theorem pairsK_len {n : Nat} (h : n ≤ 8) : (pairsK n).length ≤ sizeLine := by
  refine small ?_
  have : n = 0 ∨ n = 1 ∨ n = 2 ∨ n = 3 ∨ n = 4 ∨ n = 5 ∨ n = 6 ∨ n = 7 ∨ n = 8 := by omega
  rcases this with rfl | rfl | rfl | rfl | rfl | rfl | rfl | rfl | rfl <;> decide
theorem pairsA_len {n : Nat} (h : n ≤ 30) : (pairsA n).length ≤ sizeLine := by
  refine small ?_
  have key : ∀ m : Nat, ((List.range m).flatMap fun a => (List.range n).map fun b => (a, b)).length = m * n := by
    intro m
    induction m with
    | zero => simp
    | succ m ih => rw [List.range_succ, List.flatMap_append, List.length_append, ih, Nat.succ_mul]; simp
  unfold pairsA
  rw [key]
  have : n * n ≤ 30 * 30 := Nat.mul_le_mul h h
  omega
theorem imp_is_universal {Γ : Gam} (e1 : Γ.Φ "lowest" = φ_lowest) (e2 : Γ.Φ "pairs_of_keys" = φ_pairs_of_keys) (e3 : Γ.Φ "meeting" = φ_meeting) (e4 : Γ.Φ "compare" = φ_compare) (as : List Sl) (P : D → Prop) (PE : Str → Prop) (h : φ_is_universal as P PE) :
    spW Γ d_is_universal as P PE := by
  obtain ⟨r, n, fs, rfl, hF, hP⟩ := h
  refine ⟨rfl, ?_⟩
  have h1 := hF.r1
  have h2 := hF.r6
  simp only [d_is_universal, true_and, wpSs, wpS, wpE, wpX, wpO, wpC, wpI, ent, kt0, bindT, bindTs, tgsLen, wipeR, constD, owL, List.map_cons, List.map_nil, List.length_cons, List.length_nil, List.replicate, List.cons_append, List.nil_append, Nat.reduceSub, Nat.reduceAdd, List.getElem?_cons_zero, List.getElem?_cons_succ, List.getElem?_nil, List.set_cons_zero, List.set_cons_succ, opF, cmpF, Bi.fd, Option.map_some, if_true, if_false, Bool.true_eq_false, Bool.false_eq_true, reduceIte, Bool.not_true, Bool.not_false, w_some, w_none, w_fz0, w_fz1, w_t0, w_t1, w_t2, w_t3, w_t4, w_add, w_addL, w_addT, w_sub, w_subB, w_mul, w_mulL, w_mulT, w_mod, w_div, w_lt, w_le, w_gt, w_ge, w_is, w_isnt, w_n0, w_n1, w_n2, w_n3, w_n4, w_neg, w_atL, w_atT, w_lenL, w_lenT, w_tupL, w_tupT, w_lisL, w_lisT, w_abs, w_int, w_intB, w_gcd, w_min, w_max, w_seqL, w_seqT, w_augA, w_augS, w_augM, w_intQ, w_lstQ, w_rng1, w_rng2, w_zipL, w_zipT, w_enum]
  rw [show dSub1 (famD r fs) (.int 0) = fun Q => Q (.int r) from by funext Q; simp only [famD, true_and, wpSs, wpS, wpE, wpX, wpO, wpC, wpI, ent, kt0, bindT, bindTs, tgsLen, wipeR, constD, owL, List.map_cons, List.map_nil, List.length_cons, List.length_nil, List.replicate, List.cons_append, List.nil_append, Nat.reduceSub, Nat.reduceAdd, List.getElem?_cons_zero, List.getElem?_cons_succ, List.getElem?_nil, List.set_cons_zero, List.set_cons_succ, opF, cmpF, Bi.fd, Option.map_some, if_true, if_false, Bool.true_eq_false, Bool.false_eq_true, reduceIte, Bool.not_true, Bool.not_false, w_some, w_none, w_fz0, w_fz1, w_t0, w_t1, w_t2, w_t3, w_t4, w_add, w_addL, w_addT, w_sub, w_subB, w_mul, w_mulL, w_mulT, w_mod, w_div, w_lt, w_le, w_gt, w_ge, w_is, w_isnt, w_n0, w_n1, w_n2, w_n3, w_n4, w_neg, w_atL, w_atT, w_lenL, w_lenT, w_tupL, w_tupT, w_lisL, w_lisT, w_abs, w_int, w_intB, w_gcd, w_min, w_max, w_seqL, w_seqT, w_augA, w_augS, w_augM, w_intQ, w_lstQ, w_rng1, w_rng2, w_zipL, w_zipT, w_enum, atI0]]
  simp only [e1, e2, e3, e4]
  refine ⟨1, r, 5, rfl, by omega, bd5 (by omega) (by omega), by decide, r, n, fs, rfl, hF, ?_⟩
  simp only [true_and, wpSs, wpS, wpE, wpX, wpO, wpC, wpI, ent, kt0, bindT, bindTs, tgsLen, wipeR, constD, owL, List.map_cons, List.map_nil, List.length_cons, List.length_nil, List.replicate, List.cons_append, List.nil_append, Nat.reduceSub, Nat.reduceAdd, List.getElem?_cons_zero, List.getElem?_cons_succ, List.getElem?_nil, List.set_cons_zero, List.set_cons_succ, opF, cmpF, Bi.fd, Option.map_some, if_true, if_false, Bool.true_eq_false, Bool.false_eq_true, reduceIte, Bool.not_true, Bool.not_false, w_some, w_none, w_fz0, w_fz1, w_t0, w_t1, w_t2, w_t3, w_t4, w_add, w_addL, w_addT, w_sub, w_subB, w_mul, w_mulL, w_mulT, w_mod, w_div, w_lt, w_le, w_gt, w_ge, w_is, w_isnt, w_n0, w_n1, w_n2, w_n3, w_n4, w_neg, w_atL, w_atT, w_lenL, w_lenT, w_tupL, w_tupT, w_lisL, w_lisT, w_abs, w_int, w_intB, w_gcd, w_min, w_max, w_seqL, w_seqT, w_augA, w_augS, w_augM, w_intQ, w_lstQ, w_rng1, w_rng2, w_zipL, w_zipT, w_enum]
  refine ⟨by rw [List.length_map]; exact pairsK_len hF.n8, ?_⟩
  refine foldW_map (fun p => PyData.bool (decide (met fs p.1 p.2 ≤ Rat.divInt 1 r))) (fun p acc kk hp hk => ?_) ?_
  · rw [mem_pairsK] at hp
    simp only [pairD, true_and, wpSs, wpS, wpE, wpX, wpO, wpC, wpI, ent, kt0, bindT, bindTs, tgsLen, wipeR, constD, owL, List.map_cons, List.map_nil, List.length_cons, List.length_nil, List.replicate, List.cons_append, List.nil_append, Nat.reduceSub, Nat.reduceAdd, List.getElem?_cons_zero, List.getElem?_cons_succ, List.getElem?_nil, List.set_cons_zero, List.set_cons_succ, opF, cmpF, Bi.fd, Option.map_some, if_true, if_false, Bool.true_eq_false, Bool.false_eq_true, reduceIte, Bool.not_true, Bool.not_false, w_some, w_none, w_fz0, w_fz1, w_t0, w_t1, w_t2, w_t3, w_t4, w_add, w_addL, w_addT, w_sub, w_subB, w_mul, w_mulL, w_mulT, w_mod, w_div, w_lt, w_le, w_gt, w_ge, w_is, w_isnt, w_n0, w_n1, w_n2, w_n3, w_n4, w_neg, w_atL, w_atT, w_lenL, w_lenT, w_tupL, w_tupT, w_lisL, w_lisT, w_abs, w_int, w_intB, w_gcd, w_min, w_max, w_seqL, w_seqT, w_augA, w_augS, w_augM, w_intQ, w_lstQ, w_rng1, w_rng2, w_zipL, w_zipT, w_enum]
    refine ⟨r, n, fs, p.1, p.2, rfl, hF, by omega, by omega, _, _, 5, 5, rfl, hF.met_sz _ _, hF.inv_sz, by decide, ?_⟩
    simp only [true_and, wpSs, wpS, wpE, wpX, wpO, wpC, wpI, ent, kt0, bindT, bindTs, tgsLen, wipeR, constD, owL, List.map_cons, List.map_nil, List.length_cons, List.length_nil, List.replicate, List.cons_append, List.nil_append, Nat.reduceSub, Nat.reduceAdd, List.getElem?_cons_zero, List.getElem?_cons_succ, List.getElem?_nil, List.set_cons_zero, List.set_cons_succ, opF, cmpF, Bi.fd, Option.map_some, if_true, if_false, Bool.true_eq_false, Bool.false_eq_true, reduceIte, Bool.not_true, Bool.not_false, w_some, w_none, w_fz0, w_fz1, w_t0, w_t1, w_t2, w_t3, w_t4, w_add, w_addL, w_addT, w_sub, w_subB, w_mul, w_mulL, w_mulT, w_mod, w_div, w_lt, w_le, w_gt, w_ge, w_is, w_isnt, w_n0, w_n1, w_n2, w_n3, w_n4, w_neg, w_atL, w_atT, w_lenL, w_lenT, w_tupL, w_tupT, w_lisL, w_lisT, w_abs, w_int, w_intB, w_gcd, w_min, w_max, w_seqL, w_seqT, w_augA, w_augS, w_augM, w_intQ, w_lstQ, w_rng1, w_rng2, w_zipL, w_zipT, w_enum]
    rw [decide_eq_decide.mpr cmpQ_le]
    exact hk
  · exact dAll_map hP
def cnt2 (fs : List (List Int)) (a b v w : Nat) : Int := ((fs.filter fun f => decide (gx f a = v) && decide (gx f b = w)).length : Nat)
def indB (r : Int) (n : Nat) (fs : List (List Int)) : Bool := (pairsK n).all fun p => (List.range r.toNat).all fun v => (List.range r.toNat).all fun w => decide (cnt2 fs p.1 p.2 v w * r * r = fs.length)
def φ_is_independent : Phi := fun as P _ => ∃ (r : Int) (n : Nat) (fs : List (List Int)), as = [.fz (famD r fs)] ∧ Fam r n fs ∧ P (.bool (indB r n fs))
theorem cnt2_le (fs : List (List Int)) (a b v w : Nat) : 0 ≤ cnt2 fs a b v w ∧ cnt2 fs a b v w ≤ fs.length := by
  unfold cnt2
  have := List.length_filter_le (fun f => decide (gx f a = v) && decide (gx f b = w)) fs
  omega
/-- [one for one in functions if one[a] == v and one[b] == w], as a walk -/
theorem walk2 {fs : List (List Int)} {n a b v w : Nat} {Q : List D → Prop} {step : D → List D → (List D → Prop) → Prop} (g : List Int → D) (hl : ∀ f ∈ fs, f.length = n) (ha : a < n) (hb : b < n)
    (hs : ∀ f acc kk, f ∈ fs → (dEq (.int (gx f a)) (.int v) fun x => optQ (truD x) fun c => if c = true then dEq (.int (gx f b)) (.int w) fun y => optQ (truD y) fun c => if c = true then kk (acc ++ [g f]) else kk acc else optQ (truD x) fun c => if c = true then kk (acc ++ [g f]) else kk acc) → step (rowI f) acc kk)
    (hQ : Q ((fs.filter fun f => decide (gx f a = v) && decide (gx f b = w)).map g)) : foldW step (fs.map rowI) [] Q := by
  refine foldW_filter (fun f => decide (gx f a = v) && decide (gx f b = w)) g (fun f acc kk hf hk => hs f acc kk hf ?_) hQ
  refine dEqI ?_
  by_cases h1 : gx f a = v
  · rw [decide_eq_true h1] at hk ⊢
    simp only [true_and, wpSs, wpS, wpE, wpX, wpO, wpC, wpI, ent, kt0, bindT, bindTs, tgsLen, wipeR, constD, owL, List.map_cons, List.map_nil, List.length_cons, List.length_nil, List.replicate, List.cons_append, List.nil_append, Nat.reduceSub, Nat.reduceAdd, List.getElem?_cons_zero, List.getElem?_cons_succ, List.getElem?_nil, List.set_cons_zero, List.set_cons_succ, opF, cmpF, Bi.fd, Option.map_some, if_true, if_false, Bool.true_eq_false, Bool.false_eq_true, reduceIte, Bool.not_true, Bool.not_false, w_some, w_none, w_fz0, w_fz1, w_t0, w_t1, w_t2, w_t3, w_t4, w_add, w_addL, w_addT, w_sub, w_subB, w_mul, w_mulL, w_mulT, w_mod, w_div, w_lt, w_le, w_gt, w_ge, w_is, w_isnt, w_n0, w_n1, w_n2, w_n3, w_n4, w_neg, w_atL, w_atT, w_lenL, w_lenT, w_tupL, w_tupT, w_lisL, w_lisT, w_abs, w_int, w_intB, w_gcd, w_min, w_max, w_seqL, w_seqT, w_augA, w_augS, w_augM, w_intQ, w_lstQ, w_rng1, w_rng2, w_zipL, w_zipT, w_enum]
    refine dEqI ?_
    by_cases h2 : gx f b = w
    · rw [decide_eq_true h2] at hk ⊢
      exact hk
    · rw [decide_eq_false h2] at hk ⊢
      exact hk
  · rw [decide_eq_false h1] at hk ⊢
    exact hk
theorem imp_is_independent {Γ : Gam} (e2 : Γ.Φ "pairs_of_keys" = φ_pairs_of_keys) (as : List Sl) (P : D → Prop) (PE : Str → Prop) (h : φ_is_independent as P PE) : spW Γ d_is_independent as P PE := by
  obtain ⟨r, n, fs, rfl, hF, hP⟩ := h
  refine ⟨rfl, ?_⟩
  have h1 := hF.r1
  have h2 := hF.r6
  have h3 := hF.f30
  simp only [d_is_independent, famD, true_and, wpSs, wpS, wpE, wpX, wpO, wpC, wpI, ent, kt0, bindT, bindTs, tgsLen, wipeR, constD, owL, List.map_cons, List.map_nil, List.length_cons, List.length_nil, List.replicate, List.cons_append, List.nil_append, Nat.reduceSub, Nat.reduceAdd, List.getElem?_cons_zero, List.getElem?_cons_succ, List.getElem?_nil, List.set_cons_zero, List.set_cons_succ, opF, cmpF, Bi.fd, Option.map_some, if_true, if_false, Bool.true_eq_false, Bool.false_eq_true, reduceIte, Bool.not_true, Bool.not_false, w_some, w_none, w_fz0, w_fz1, w_t0, w_t1, w_t2, w_t3, w_t4, w_add, w_addL, w_addT, w_sub, w_subB, w_mul, w_mulL, w_mulT, w_mod, w_div, w_lt, w_le, w_gt, w_ge, w_is, w_isnt, w_n0, w_n1, w_n2, w_n3, w_n4, w_neg, w_atL, w_atT, w_lenL, w_lenT, w_tupL, w_tupT, w_lisL, w_lisT, w_abs, w_int, w_intB, w_gcd, w_min, w_max, w_seqL, w_seqT, w_augA, w_augS, w_augM, w_intQ, w_lstQ, w_rng1, w_rng2, w_zipL, w_zipT, w_enum]
  rw [e2]
  refine ⟨r, n, fs, rfl, hF, ?_⟩
  simp only [true_and, wpSs, wpS, wpE, wpX, wpO, wpC, wpI, ent, kt0, bindT, bindTs, tgsLen, wipeR, constD, owL, List.map_cons, List.map_nil, List.length_cons, List.length_nil, List.replicate, List.cons_append, List.nil_append, Nat.reduceSub, Nat.reduceAdd, List.getElem?_cons_zero, List.getElem?_cons_succ, List.getElem?_nil, List.set_cons_zero, List.set_cons_succ, opF, cmpF, Bi.fd, Option.map_some, if_true, if_false, Bool.true_eq_false, Bool.false_eq_true, reduceIte, Bool.not_true, Bool.not_false, w_some, w_none, w_fz0, w_fz1, w_t0, w_t1, w_t2, w_t3, w_t4, w_add, w_addL, w_addT, w_sub, w_subB, w_mul, w_mulL, w_mulT, w_mod, w_div, w_lt, w_le, w_gt, w_ge, w_is, w_isnt, w_n0, w_n1, w_n2, w_n3, w_n4, w_neg, w_atL, w_atT, w_lenL, w_lenT, w_tupL, w_tupT, w_lisL, w_lisT, w_abs, w_int, w_intB, w_gcd, w_min, w_max, w_seqL, w_seqT, w_augA, w_augS, w_augM, w_intQ, w_lstQ, w_rng1, w_rng2, w_zipL, w_zipT, w_enum]
  refine forW_allB (c := fun p => (List.range r.toNat).all fun v => (List.range r.toNat).all fun w => decide (cnt2 fs p.1 p.2 v w * r * r = fs.length)) (J := fun ρ => ∃ y3 y4 y5 y6 y7, ρ = [some (.fz (famD r fs)), some (.fz (.int r)), some (.fz (.tuple (fs.map rowI))), y3, y4, y5, y6, y7, none]) (R := P (.bool false))
    ⟨_, _, _, _, _, rfl⟩ (fun p ρ kk hp hJ hk hR => ?_) (fun hall ρ hJ => ?_) (fun hall => ?_)
  · rw [mem_pairsK] at hp
    obtain ⟨y3, y4, y5, y6, y7, rfl⟩ := hJ
    simp only [pairD, true_and, wpSs, wpS, wpE, wpX, wpO, wpC, wpI, ent, kt0, bindT, bindTs, tgsLen, wipeR, constD, owL, List.map_cons, List.map_nil, List.length_cons, List.length_nil, List.replicate, List.cons_append, List.nil_append, Nat.reduceSub, Nat.reduceAdd, List.getElem?_cons_zero, List.getElem?_cons_succ, List.getElem?_nil, List.set_cons_zero, List.set_cons_succ, opF, cmpF, Bi.fd, Option.map_some, if_true, if_false, Bool.true_eq_false, Bool.false_eq_true, reduceIte, Bool.not_true, Bool.not_false, w_some, w_none, w_fz0, w_fz1, w_t0, w_t1, w_t2, w_t3, w_t4, w_add, w_addL, w_addT, w_sub, w_subB, w_mul, w_mulL, w_mulT, w_mod, w_div, w_lt, w_le, w_gt, w_ge, w_is, w_isnt, w_n0, w_n1, w_n2, w_n3, w_n4, w_neg, w_atL, w_atT, w_lenL, w_lenT, w_tupL, w_tupT, w_lisL, w_lisT, w_abs, w_int, w_intB, w_gcd, w_min, w_max, w_seqL, w_seqT, w_augA, w_augS, w_augM, w_intQ, w_lstQ, w_rng1, w_rng2, w_zipL, w_zipT, w_enum]
    refine ⟨rngOk_small (by omega) (by omega), ?_⟩
    rw [rangeD0]
    refine forW_allB (c := fun v => (List.range r.toNat).all fun w => decide (cnt2 fs p.1 p.2 v w * r * r = fs.length)) (J := fun ρ => ∃ y5 y6 y7, ρ = [some (.fz (famD r fs)), some (.fz (.int r)), some (.fz (.tuple (fs.map rowI))), some (.fz (.int p.1)), some (.fz (.int p.2)), y5, y6, y7, none]) (R := P (.bool false))
      ⟨_, _, _, rfl⟩ (fun v ρ kk hv hJ hk hR => ?_) (fun hall ρ hJ => ?_) hR
    · obtain ⟨y5, y6, y7, rfl⟩ := hJ
      simp only [true_and, wpSs, wpS, wpE, wpX, wpO, wpC, wpI, ent, kt0, bindT, bindTs, tgsLen, wipeR, constD, owL, List.map_cons, List.map_nil, List.length_cons, List.length_nil, List.replicate, List.cons_append, List.nil_append, Nat.reduceSub, Nat.reduceAdd, List.getElem?_cons_zero, List.getElem?_cons_succ, List.getElem?_nil, List.set_cons_zero, List.set_cons_succ, opF, cmpF, Bi.fd, Option.map_some, if_true, if_false, Bool.true_eq_false, Bool.false_eq_true, reduceIte, Bool.not_true, Bool.not_false, w_some, w_none, w_fz0, w_fz1, w_t0, w_t1, w_t2, w_t3, w_t4, w_add, w_addL, w_addT, w_sub, w_subB, w_mul, w_mulL, w_mulT, w_mod, w_div, w_lt, w_le, w_gt, w_ge, w_is, w_isnt, w_n0, w_n1, w_n2, w_n3, w_n4, w_neg, w_atL, w_atT, w_lenL, w_lenT, w_tupL, w_tupT, w_lisL, w_lisT, w_abs, w_int, w_intB, w_gcd, w_min, w_max, w_seqL, w_seqT, w_augA, w_augS, w_augM, w_intQ, w_lstQ, w_rng1, w_rng2, w_zipL, w_zipT, w_enum]
      refine ⟨rngOk_small (by omega) (by omega), ?_⟩
      rw [rangeD0]
      refine forW_allB (c := fun w => decide (cnt2 fs p.1 p.2 v w * r * r = fs.length)) (J := fun ρ => ∃ y6 y7, ρ = [some (.fz (famD r fs)), some (.fz (.int r)), some (.fz (.tuple (fs.map rowI))), some (.fz (.int p.1)), some (.fz (.int p.2)), some (.fz (.int v)), y6, y7, none]) (R := P (.bool false))
        ⟨_, _, rfl⟩ (fun w ρ kk hw hJ hk hR => ?_) (fun hall ρ hJ => ?_) hR
      · obtain ⟨y6, y7, rfl⟩ := hJ
        simp only [true_and, wpSs, wpS, wpE, wpX, wpO, wpC, wpI, ent, kt0, bindT, bindTs, tgsLen, wipeR, constD, owL, List.map_cons, List.map_nil, List.length_cons, List.length_nil, List.replicate, List.cons_append, List.nil_append, Nat.reduceSub, Nat.reduceAdd, List.getElem?_cons_zero, List.getElem?_cons_succ, List.getElem?_nil, List.set_cons_zero, List.set_cons_succ, opF, cmpF, Bi.fd, Option.map_some, if_true, if_false, Bool.true_eq_false, Bool.false_eq_true, reduceIte, Bool.not_true, Bool.not_false, w_some, w_none, w_fz0, w_fz1, w_t0, w_t1, w_t2, w_t3, w_t4, w_add, w_addL, w_addT, w_sub, w_subB, w_mul, w_mulL, w_mulT, w_mod, w_div, w_lt, w_le, w_gt, w_ge, w_is, w_isnt, w_n0, w_n1, w_n2, w_n3, w_n4, w_neg, w_atL, w_atT, w_lenL, w_lenT, w_tupL, w_tupT, w_lisL, w_lisT, w_abs, w_int, w_intB, w_gcd, w_min, w_max, w_seqL, w_seqT, w_augA, w_augS, w_augM, w_intQ, w_lstQ, w_rng1, w_rng2, w_zipL, w_zipT, w_enum]
        refine ⟨by rw [List.length_map]; exact small (by omega), ?_⟩
        refine walk2 rowI hF.len (a := p.1) (b := p.2) (v := v) (w := w) (by omega) (by omega) (fun f acc kk hf hk => ?_) ?_
        · have hl := hF.len f hf
          simp only [rowI, true_and, wpSs, wpS, wpE, wpX, wpO, wpC, wpI, ent, kt0, bindT, bindTs, tgsLen, wipeR, constD, owL, List.map_cons, List.map_nil, List.length_cons, List.length_nil, List.replicate, List.cons_append, List.nil_append, Nat.reduceSub, Nat.reduceAdd, List.getElem?_cons_zero, List.getElem?_cons_succ, List.getElem?_nil, List.set_cons_zero, List.set_cons_succ, opF, cmpF, Bi.fd, Option.map_some, if_true, if_false, Bool.true_eq_false, Bool.false_eq_true, reduceIte, Bool.not_true, Bool.not_false, w_some, w_none, w_fz0, w_fz1, w_t0, w_t1, w_t2, w_t3, w_t4, w_add, w_addL, w_addT, w_sub, w_subB, w_mul, w_mulL, w_mulT, w_mod, w_div, w_lt, w_le, w_gt, w_ge, w_is, w_isnt, w_n0, w_n1, w_n2, w_n3, w_n4, w_neg, w_atL, w_atT, w_lenL, w_lenT, w_tupL, w_tupT, w_lisL, w_lisT, w_abs, w_int, w_intB, w_gcd, w_min, w_max, w_seqL, w_seqT, w_augA, w_augS, w_augM, w_intQ, w_lstQ, w_rng1, w_rng2, w_zipL, w_zipT, w_enum, atI_row (show p.1 < f.length by omega), atI_row (show p.2 < f.length by omega)]
          exact hk
        · have c2 := cnt2_le fs p.1 p.2 v w
          have eL : (((fs.filter fun f => decide (gx f p.1 = v) && decide (gx f p.2 = w)).map rowI).length : Int) = cnt2 fs p.1 p.2 v w := by rw [List.length_map]; rfl
          rw [eL, List.length_map]
          have b1 : Bd 5 (cnt2 fs p.1 p.2 v w) := bd5 (by omega) (by omega)
          have b2 : Bd 5 r := bd5 (by omega) (by omega)
          refine ⟨b1.mulOk b2 (by decide), (b1.mul b2).mulOk b2 (by decide), ?_⟩
          refine dNeI ?_
          by_cases hc : cnt2 fs p.1 p.2 v w * r * r = fs.length
          · rw [decide_eq_true hc]
            simp only [true_and, wpSs, wpS, wpE, wpX, wpO, wpC, wpI, ent, kt0, bindT, bindTs, tgsLen, wipeR, constD, owL, List.map_cons, List.map_nil, List.length_cons, List.length_nil, List.replicate, List.cons_append, List.nil_append, Nat.reduceSub, Nat.reduceAdd, List.getElem?_cons_zero, List.getElem?_cons_succ, List.getElem?_nil, List.set_cons_zero, List.set_cons_succ, opF, cmpF, Bi.fd, Option.map_some, if_true, if_false, Bool.true_eq_false, Bool.false_eq_true, reduceIte, Bool.not_true, Bool.not_false, w_some, w_none, w_fz0, w_fz1, w_t0, w_t1, w_t2, w_t3, w_t4, w_add, w_addL, w_addT, w_sub, w_subB, w_mul, w_mulL, w_mulT, w_mod, w_div, w_lt, w_le, w_gt, w_ge, w_is, w_isnt, w_n0, w_n1, w_n2, w_n3, w_n4, w_neg, w_atL, w_atT, w_lenL, w_lenT, w_tupL, w_tupT, w_lisL, w_lisT, w_abs, w_int, w_intB, w_gcd, w_min, w_max, w_seqL, w_seqT, w_augA, w_augS, w_augM, w_intQ, w_lstQ, w_rng1, w_rng2, w_zipL, w_zipT, w_enum]
            exact hk (decide_eq_true hc) _ ⟨_, _, rfl⟩
          · rw [decide_eq_false hc]
            simp only [true_and, wpSs, wpS, wpE, wpX, wpO, wpC, wpI, ent, kt0, bindT, bindTs, tgsLen, wipeR, constD, owL, List.map_cons, List.map_nil, List.length_cons, List.length_nil, List.replicate, List.cons_append, List.nil_append, Nat.reduceSub, Nat.reduceAdd, List.getElem?_cons_zero, List.getElem?_cons_succ, List.getElem?_nil, List.set_cons_zero, List.set_cons_succ, opF, cmpF, Bi.fd, Option.map_some, if_true, if_false, Bool.true_eq_false, Bool.false_eq_true, reduceIte, Bool.not_true, Bool.not_false, w_some, w_none, w_fz0, w_fz1, w_t0, w_t1, w_t2, w_t3, w_t4, w_add, w_addL, w_addT, w_sub, w_subB, w_mul, w_mulL, w_mulT, w_mod, w_div, w_lt, w_le, w_gt, w_ge, w_is, w_isnt, w_n0, w_n1, w_n2, w_n3, w_n4, w_neg, w_atL, w_atT, w_lenL, w_lenT, w_tupL, w_tupT, w_lisL, w_lisT, w_abs, w_int, w_intB, w_gcd, w_min, w_max, w_seqL, w_seqT, w_augA, w_augS, w_augM, w_intQ, w_lstQ, w_rng1, w_rng2, w_zipL, w_zipT, w_enum]
            exact hR (decide_eq_false hc)
      · obtain ⟨y6, y7, rfl⟩ := hJ
        exact hk hall _ ⟨_, _, _, rfl⟩
    · obtain ⟨y5, y6, y7, rfl⟩ := hJ
      exact hk hall _ ⟨_, _, _, _, _, rfl⟩
  · obtain ⟨y3, y4, y5, y6, y7, rfl⟩ := hJ
    rw [show indB r n fs = true from hall] at hP
    exact hP
  · rw [show indB r n fs = false from hall] at hP
    exact hP
end DL

set_option Elab.async false
set_option linter.all false
set_option maxRecDepth 100000
set_option maxHeartbeats 4000000
namespace DL
open PySem PySem.Spec PyProof.Rows L2
/-! ### ratios of two numbers -/
theorem divInt_le_iff {a b c d : Int} (hb : 0 < b) (hd : 0 < d) : Rat.divInt a b ≤ Rat.divInt c d ↔ a * d ≤ c * b := by
  rw [Rat.le_iff_sub_nonneg, Rat.divInt_sub_divInt _ _ (by omega) (by omega), Rat.divInt_nonneg_iff_of_pos_right (Int.mul_pos hd hb)]
  omega
theorem divInt_lt_iff {a b c d : Int} (hb : 0 < b) (hd : 0 < d) : Rat.divInt a b < Rat.divInt c d ↔ a * d < c * b := by
  rw [← Rat.not_le, divInt_le_iff hd hb]
  omega
theorem self_divInt (q : Rat) : Rat.divInt q.num q.den = q := Rat.num_divInt_den q
/-! ### the law's counting -/
def φ__law_met : Phi := φ_meeting
theorem imp__law_met {Γ : Gam} (e : Γ.Φ "_law_lowest" = φ__law_lowest) (as : List Sl) (P : D → Prop) (PE : Str → Prop) (h : φ__law_met as P PE) : spW Γ d__law_met as P PE := by
  obtain ⟨r, n, fs, a, b, rfl, hF, ha, hb, hP⟩ := h
  refine ⟨rfl, ?_⟩
  simp only [d__law_met, famD, true_and, wpSs, wpS, wpE, wpX, wpO, wpC, wpI, ent, kt0, bindT, bindTs, tgsLen, wipeR, constD, owL, List.map_cons, List.map_nil, List.length_cons, List.length_nil, List.replicate, List.cons_append, List.nil_append, Nat.reduceSub, Nat.reduceAdd, List.getElem?_cons_zero, List.getElem?_cons_succ, List.getElem?_nil, List.set_cons_zero, List.set_cons_succ, opF, cmpF, Bi.fd, Option.map_some, if_true, if_false, Bool.true_eq_false, Bool.false_eq_true, reduceIte, Bool.not_true, Bool.not_false, w_some, w_none, w_fz0, w_fz1, w_t0, w_t1, w_t2, w_t3, w_t4, w_add, w_addL, w_addT, w_sub, w_subB, w_mul, w_mulL, w_mulT, w_mod, w_div, w_lt, w_le, w_gt, w_ge, w_is, w_isnt, w_n0, w_n1, w_n2, w_n3, w_n4, w_neg, w_atL, w_atT, w_lenL, w_lenT, w_tupL, w_tupT, w_lisL, w_lisT, w_abs, w_int, w_intB, w_gcd, w_min, w_max, w_seqL, w_seqT, w_augA, w_augS, w_augM, w_intQ, w_lstQ, w_rng1, w_rng2, w_zipL, w_zipT, w_enum, atI1]
  have hf30 := hF.f30
  have hf1 := hF.f1
  refine ⟨by rw [List.length_map]; exact small (by omega), ?_⟩
  refine foldW_filter (fun f => decide (gx f a = gx f b)) (fun _ => PyData.int 1) (fun f acc kk hf hk => ?_) ?_
  · have hl := hF.len f hf
    simp only [rowI, true_and, wpSs, wpS, wpE, wpX, wpO, wpC, wpI, ent, kt0, bindT, bindTs, tgsLen, wipeR, constD, owL, List.map_cons, List.map_nil, List.length_cons, List.length_nil, List.replicate, List.cons_append, List.nil_append, Nat.reduceSub, Nat.reduceAdd, List.getElem?_cons_zero, List.getElem?_cons_succ, List.getElem?_nil, List.set_cons_zero, List.set_cons_succ, opF, cmpF, Bi.fd, Option.map_some, if_true, if_false, Bool.true_eq_false, Bool.false_eq_true, reduceIte, Bool.not_true, Bool.not_false, w_some, w_none, w_fz0, w_fz1, w_t0, w_t1, w_t2, w_t3, w_t4, w_add, w_addL, w_addT, w_sub, w_subB, w_mul, w_mulL, w_mulT, w_mod, w_div, w_lt, w_le, w_gt, w_ge, w_is, w_isnt, w_n0, w_n1, w_n2, w_n3, w_n4, w_neg, w_atL, w_atT, w_lenL, w_lenT, w_tupL, w_tupT, w_lisL, w_lisT, w_abs, w_int, w_intB, w_gcd, w_min, w_max, w_seqL, w_seqT, w_augA, w_augS, w_augM, w_intQ, w_lstQ, w_rng1, w_rng2, w_zipL, w_zipT, w_enum, atI_row (show a < f.length by omega), atI_row (show b < f.length by omega)]
    refine dEqI ?_
    by_cases hc : gx f a = gx f b
    · rw [decide_eq_true hc] at hk ⊢
      exact hk
    · rw [decide_eq_false hc] at hk ⊢
      exact hk
  · rw [e]
    obtain ⟨c1, c2⟩ := cnt_le fs a b
    have eL : (((fs.filter fun f => decide (gx f a = gx f b)).map fun _ => PyData.int 1).length : Int) = cnt fs a b := by rw [List.length_map]; rfl
    refine ⟨_, _, 5, 5, rfl, by rw [List.length_map]; omega, ?_, by rw [List.length_map]; exact hF.bd, by decide, by decide, ?_⟩
    · rw [eL]
      exact bd5 (by omega) (by omega)
    · rw [eL, List.length_map]
      exact hP
theorem met_symm (fs : List (List Int)) (a b : Nat) : met fs a b = met fs b a := by
  unfold met cnt
  have : (fun f => decide (gx f a = gx f b)) = fun f => decide (gx f b = gx f a) := by
    funext f
    exact decide_eq_decide.mpr ⟨Eq.symm, Eq.symm⟩
  rw [this]
theorem univ_eq {r : Int} {n : Nat} {fs : List (List Int)} : decide (((pairsA n).filter fun p => decide (p.1 ≠ p.2) && decide (Rat.divInt 1 r < met fs p.1 p.2)).map (fun _ => (1 : Int)) = []) = univB r n fs := by
  rw [Bool.eq_iff_iff, decide_eq_true_eq, List.map_eq_nil_iff, List.filter_eq_nil_iff]
  unfold univB
  rw [List.all_eq_true]
  constructor
  · intro h p hp
    rw [mem_pairsK] at hp
    have := h p (mem_pairsA.mpr ⟨by omega, by omega⟩)
    simp only [Bool.and_eq_true, decide_eq_true_eq, not_and] at this
    rw [decide_eq_true_eq]
    exact Rat.not_lt.mp (this (by omega))
  · intro h p hp
    rw [mem_pairsA] at hp
    simp only [Bool.and_eq_true, decide_eq_true_eq, not_and]
    intro hne
    rw [Rat.not_lt]
    rcases Nat.lt_or_gt_of_ne hne with hl | hl
    · exact of_decide_eq_true (h p (mem_pairsK.mpr ⟨hl, hp.2⟩))
    · have := of_decide_eq_true (h (p.2, p.1) (mem_pairsK.mpr ⟨hl, hp.1⟩))
      rw [met_symm]
      exact this
def φ__law_universal : Phi := φ_is_universal
theorem imp__law_universal {Γ : Gam} (e1 : Γ.Φ "_law_pairs_below" = φ__law_pairs_below) (e2 : Γ.Φ "_law_met" = φ__law_met) (e3 : Γ.Φ "_law_less" = φ__law_less) (as : List Sl) (P : D → Prop) (PE : Str → Prop) (h : φ__law_universal as P PE) : spW Γ d__law_universal as P PE := by
  obtain ⟨r, n, fs, rfl, hF, hP⟩ := h
  refine ⟨rfl, ?_⟩
  have h1 := hF.r1
  have h2 := hF.r6
  have h8 := hF.n8
  have hL : ∀ Q : D → Prop, dSub1 (famD r fs) (.int 1) Q = Q (.tuple (fs.map rowI)) := fun Q => by simp only [famD, true_and, wpSs, wpS, wpE, wpX, wpO, wpC, wpI, ent, kt0, bindT, bindTs, tgsLen, wipeR, constD, owL, List.map_cons, List.map_nil, List.length_cons, List.length_nil, List.replicate, List.cons_append, List.nil_append, Nat.reduceSub, Nat.reduceAdd, List.getElem?_cons_zero, List.getElem?_cons_succ, List.getElem?_nil, List.set_cons_zero, List.set_cons_succ, opF, cmpF, Bi.fd, Option.map_some, if_true, if_false, Bool.true_eq_false, Bool.false_eq_true, reduceIte, Bool.not_true, Bool.not_false, w_some, w_none, w_fz0, w_fz1, w_t0, w_t1, w_t2, w_t3, w_t4, w_add, w_addL, w_addT, w_sub, w_subB, w_mul, w_mulL, w_mulT, w_mod, w_div, w_lt, w_le, w_gt, w_ge, w_is, w_isnt, w_n0, w_n1, w_n2, w_n3, w_n4, w_neg, w_atL, w_atT, w_lenL, w_lenT, w_tupL, w_tupT, w_lisL, w_lisT, w_abs, w_int, w_intB, w_gcd, w_min, w_max, w_seqL, w_seqT, w_augA, w_augS, w_augM, w_intQ, w_lstQ, w_rng1, w_rng2, w_zipL, w_zipT, w_enum, atI1]
  have h0 : ∀ Q : D → Prop, dSub1 (famD r fs) (.int 0) Q = Q (.int r) := fun Q => by simp only [famD, true_and, wpSs, wpS, wpE, wpX, wpO, wpC, wpI, ent, kt0, bindT, bindTs, tgsLen, wipeR, constD, owL, List.map_cons, List.map_nil, List.length_cons, List.length_nil, List.replicate, List.cons_append, List.nil_append, Nat.reduceSub, Nat.reduceAdd, List.getElem?_cons_zero, List.getElem?_cons_succ, List.getElem?_nil, List.set_cons_zero, List.set_cons_succ, opF, cmpF, Bi.fd, Option.map_some, if_true, if_false, Bool.true_eq_false, Bool.false_eq_true, reduceIte, Bool.not_true, Bool.not_false, w_some, w_none, w_fz0, w_fz1, w_t0, w_t1, w_t2, w_t3, w_t4, w_add, w_addL, w_addT, w_sub, w_subB, w_mul, w_mulL, w_mulT, w_mod, w_div, w_lt, w_le, w_gt, w_ge, w_is, w_isnt, w_n0, w_n1, w_n2, w_n3, w_n4, w_neg, w_atL, w_atT, w_lenL, w_lenT, w_tupL, w_tupT, w_lisL, w_lisT, w_abs, w_int, w_intB, w_gcd, w_min, w_max, w_seqL, w_seqT, w_augA, w_augS, w_augM, w_intQ, w_lstQ, w_rng1, w_rng2, w_zipL, w_zipT, w_enum, atI0]
  obtain ⟨f0, fr, hfs, hn⟩ := hF.head
  have hH : ∀ Q : D → Prop, dSub1 (.tuple (fs.map rowI)) (.int 0) Q = Q (rowI f0) := fun Q => by rw [hfs]; simp only [true_and, wpSs, wpS, wpE, wpX, wpO, wpC, wpI, ent, kt0, bindT, bindTs, tgsLen, wipeR, constD, owL, List.map_cons, List.map_nil, List.length_cons, List.length_nil, List.replicate, List.cons_append, List.nil_append, Nat.reduceSub, Nat.reduceAdd, List.getElem?_cons_zero, List.getElem?_cons_succ, List.getElem?_nil, List.set_cons_zero, List.set_cons_succ, opF, cmpF, Bi.fd, Option.map_some, if_true, if_false, Bool.true_eq_false, Bool.false_eq_true, reduceIte, Bool.not_true, Bool.not_false, w_some, w_none, w_fz0, w_fz1, w_t0, w_t1, w_t2, w_t3, w_t4, w_add, w_addL, w_addT, w_sub, w_subB, w_mul, w_mulL, w_mulT, w_mod, w_div, w_lt, w_le, w_gt, w_ge, w_is, w_isnt, w_n0, w_n1, w_n2, w_n3, w_n4, w_neg, w_atL, w_atT, w_lenL, w_lenT, w_tupL, w_tupT, w_lisL, w_lisT, w_abs, w_int, w_intB, w_gcd, w_min, w_max, w_seqL, w_seqT, w_augA, w_augS, w_augM, w_intQ, w_lstQ, w_rng1, w_rng2, w_zipL, w_zipT, w_enum, atI0]
  have hN : ∀ Q : D → Prop, dLen [rowI f0] Q = Q (.int n) := fun Q => by simp only [rowI, true_and, wpSs, wpS, wpE, wpX, wpO, wpC, wpI, ent, kt0, bindT, bindTs, tgsLen, wipeR, constD, owL, List.map_cons, List.map_nil, List.length_cons, List.length_nil, List.replicate, List.cons_append, List.nil_append, Nat.reduceSub, Nat.reduceAdd, List.getElem?_cons_zero, List.getElem?_cons_succ, List.getElem?_nil, List.set_cons_zero, List.set_cons_succ, opF, cmpF, Bi.fd, Option.map_some, if_true, if_false, Bool.true_eq_false, Bool.false_eq_true, reduceIte, Bool.not_true, Bool.not_false, w_some, w_none, w_fz0, w_fz1, w_t0, w_t1, w_t2, w_t3, w_t4, w_add, w_addL, w_addT, w_sub, w_subB, w_mul, w_mulL, w_mulT, w_mod, w_div, w_lt, w_le, w_gt, w_ge, w_is, w_isnt, w_n0, w_n1, w_n2, w_n3, w_n4, w_neg, w_atL, w_atT, w_lenL, w_lenT, w_tupL, w_tupT, w_lisL, w_lisT, w_abs, w_int, w_intB, w_gcd, w_min, w_max, w_seqL, w_seqT, w_augA, w_augS, w_augM, w_intQ, w_lstQ, w_rng1, w_rng2, w_zipL, w_zipT, w_enum, List.length_map, hn]
  simp only [d__law_universal, true_and, wpSs, wpS, wpE, wpX, wpO, wpC, wpI, ent, kt0, bindT, bindTs, tgsLen, wipeR, constD, owL, List.map_cons, List.map_nil, List.length_cons, List.length_nil, List.replicate, List.cons_append, List.nil_append, Nat.reduceSub, Nat.reduceAdd, List.getElem?_cons_zero, List.getElem?_cons_succ, List.getElem?_nil, List.set_cons_zero, List.set_cons_succ, opF, cmpF, Bi.fd, Option.map_some, if_true, if_false, Bool.true_eq_false, Bool.false_eq_true, reduceIte, Bool.not_true, Bool.not_false, w_some, w_none, w_fz0, w_fz1, w_t0, w_t1, w_t2, w_t3, w_t4, w_add, w_addL, w_addT, w_sub, w_subB, w_mul, w_mulL, w_mulT, w_mod, w_div, w_lt, w_le, w_gt, w_ge, w_is, w_isnt, w_n0, w_n1, w_n2, w_n3, w_n4, w_neg, w_atL, w_atT, w_lenL, w_lenT, w_tupL, w_tupT, w_lisL, w_lisT, w_abs, w_int, w_intB, w_gcd, w_min, w_max, w_seqL, w_seqT, w_augA, w_augS, w_augM, w_intQ, w_lstQ, w_rng1, w_rng2, w_zipL, w_zipT, w_enum, hL, hH, hN, h0, e1, e2, e3]
  refine ⟨n, rfl, by omega, ?_⟩
  simp only [true_and, wpSs, wpS, wpE, wpX, wpO, wpC, wpI, ent, kt0, bindT, bindTs, tgsLen, wipeR, constD, owL, List.map_cons, List.map_nil, List.length_cons, List.length_nil, List.replicate, List.cons_append, List.nil_append, Nat.reduceSub, Nat.reduceAdd, List.getElem?_cons_zero, List.getElem?_cons_succ, List.getElem?_nil, List.set_cons_zero, List.set_cons_succ, opF, cmpF, Bi.fd, Option.map_some, if_true, if_false, Bool.true_eq_false, Bool.false_eq_true, reduceIte, Bool.not_true, Bool.not_false, w_some, w_none, w_fz0, w_fz1, w_t0, w_t1, w_t2, w_t3, w_t4, w_add, w_addL, w_addT, w_sub, w_subB, w_mul, w_mulL, w_mulT, w_mod, w_div, w_lt, w_le, w_gt, w_ge, w_is, w_isnt, w_n0, w_n1, w_n2, w_n3, w_n4, w_neg, w_atL, w_atT, w_lenL, w_lenT, w_tupL, w_tupT, w_lisL, w_lisT, w_abs, w_int, w_intB, w_gcd, w_min, w_max, w_seqL, w_seqT, w_augA, w_augS, w_augM, w_intQ, w_lstQ, w_rng1, w_rng2, w_zipL, w_zipT, w_enum]
  refine ⟨by rw [List.length_map]; exact pairsA_len (by omega), ?_⟩
  refine foldW_filter (fun p => decide (p.1 ≠ p.2) && decide (Rat.divInt 1 r < met fs p.1 p.2)) (fun _ => PyData.int 1) (fun p acc kk hp hk => ?_) ?_
  · rw [mem_pairsA] at hp
    simp only [pairD, true_and, wpSs, wpS, wpE, wpX, wpO, wpC, wpI, ent, kt0, bindT, bindTs, tgsLen, wipeR, constD, owL, List.map_cons, List.map_nil, List.length_cons, List.length_nil, List.replicate, List.cons_append, List.nil_append, Nat.reduceSub, Nat.reduceAdd, List.getElem?_cons_zero, List.getElem?_cons_succ, List.getElem?_nil, List.set_cons_zero, List.set_cons_succ, opF, cmpF, Bi.fd, Option.map_some, if_true, if_false, Bool.true_eq_false, Bool.false_eq_true, reduceIte, Bool.not_true, Bool.not_false, w_some, w_none, w_fz0, w_fz1, w_t0, w_t1, w_t2, w_t3, w_t4, w_add, w_addL, w_addT, w_sub, w_subB, w_mul, w_mulL, w_mulT, w_mod, w_div, w_lt, w_le, w_gt, w_ge, w_is, w_isnt, w_n0, w_n1, w_n2, w_n3, w_n4, w_neg, w_atL, w_atT, w_lenL, w_lenT, w_tupL, w_tupT, w_lisL, w_lisT, w_abs, w_int, w_intB, w_gcd, w_min, w_max, w_seqL, w_seqT, w_augA, w_augS, w_augM, w_intQ, w_lstQ, w_rng1, w_rng2, w_zipL, w_zipT, w_enum]
    refine dNeI ?_
    by_cases hc : p.1 = p.2
    · have hc' : (p.1 : Int) = p.2 := by omega
      rw [decide_eq_true hc']
      simp only [hc, ne_eq, not_true, decide_false, Bool.false_and, Bool.false_eq_true, if_false] at hk
      exact hk
    · have hc' : ¬ (p.1 : Int) = p.2 := by omega
      rw [decide_eq_false hc']
      simp only [hc, ne_eq, not_false_eq_true, decide_true, Bool.true_and] at hk
      simp only [true_and, wpSs, wpS, wpE, wpX, wpO, wpC, wpI, ent, kt0, bindT, bindTs, tgsLen, wipeR, constD, owL, List.map_cons, List.map_nil, List.length_cons, List.length_nil, List.replicate, List.cons_append, List.nil_append, Nat.reduceSub, Nat.reduceAdd, List.getElem?_cons_zero, List.getElem?_cons_succ, List.getElem?_nil, List.set_cons_zero, List.set_cons_succ, opF, cmpF, Bi.fd, Option.map_some, if_true, if_false, Bool.true_eq_false, Bool.false_eq_true, reduceIte, Bool.not_true, Bool.not_false, w_some, w_none, w_fz0, w_fz1, w_t0, w_t1, w_t2, w_t3, w_t4, w_add, w_addL, w_addT, w_sub, w_subB, w_mul, w_mulL, w_mulT, w_mod, w_div, w_lt, w_le, w_gt, w_ge, w_is, w_isnt, w_n0, w_n1, w_n2, w_n3, w_n4, w_neg, w_atL, w_atT, w_lenL, w_lenT, w_tupL, w_tupT, w_lisL, w_lisT, w_abs, w_int, w_intB, w_gcd, w_min, w_max, w_seqL, w_seqT, w_augA, w_augS, w_augM, w_intQ, w_lstQ, w_rng1, w_rng2, w_zipL, w_zipT, w_enum]
      refine ⟨r, n, fs, p.1, p.2, rfl, hF, hp.1, hp.2, ?_⟩
      have sz := hF.met_sz p.1 p.2
      refine ⟨1, r, (met fs p.1 p.2).num, (met fs p.1 p.2).den, 5, 5, rfl, bd5 (by omega) (by omega), bd5 (by omega) (by omega), sz.num, sz.den, by decide, ?_⟩
      have e : decide (1 * ((met fs p.1 p.2).den : Int) < (met fs p.1 p.2).num * r) = decide (Rat.divInt 1 r < met fs p.1 p.2) := by
        refine decide_eq_decide.mpr ?_
        rw [← divInt_lt_iff (show 0 < r by omega) (den_pos _), self_divInt]
      rw [e]
      generalize decide (Rat.divInt 1 r < met fs p.1 p.2) = c at hk ⊢
      cases c <;> exact hk
  · have := dEqT (α := List Int) (x := ((pairsA n).filter fun p => decide (p.1 ≠ p.2) && decide (Rat.divInt 1 r < met fs p.1 p.2)).map fun _ => (1 : Int)) (y := []) (Q := P) (by rw [univ_eq]; exact hP)
    have e : (Td.d (((pairsA n).filter fun p => decide (p.1 ≠ p.2) && decide (Rat.divInt 1 r < met fs p.1 p.2)).map fun _ => (1 : Int)) : D) = .list (((pairsA n).filter fun p => decide (p.1 ≠ p.2) && decide (Rat.divInt 1 r < met fs p.1 p.2)).map fun _ => PyData.int 1) := by
      show PyData.list (List.map _ (List.map _ _)) = _
      rw [List.map_map]
      rfl
    rw [e] at this
    exact this
theorem cnt2_symm (fs : List (List Int)) (a b v w : Nat) : cnt2 fs a b v w = cnt2 fs b a w v := by
  unfold cnt2
  have : (fun f => decide (gx f a = (v : Int)) && decide (gx f b = (w : Int))) = fun f => decide (gx f b = (w : Int)) && decide (gx f a = (v : Int)) := by
    funext f
    exact Bool.and_comm _ _
  rw [this]
def lindB (r : Int) (n : Nat) (fs : List (List Int)) : Bool := (pairsA n).all fun p => (pairsA r.toNat).all fun q => decide (p.1 = p.2) || decide (cnt2 fs p.1 p.2 q.1 q.2 * r * r = fs.length)
theorem ind_eq {r : Int} {n : Nat} {fs : List (List Int)} : lindB r n fs = indB r n fs := by
  rw [Bool.eq_iff_iff]
  unfold lindB indB
  simp only [List.all_eq_true, List.mem_range, Bool.or_eq_true, decide_eq_true_eq]
  constructor
  · intro h p hp v hv w hw
    rw [mem_pairsK] at hp
    rcases h p (mem_pairsA.mpr ⟨by omega, by omega⟩) (v, w) (mem_pairsA.mpr ⟨hv, hw⟩) with h | h
    · omega
    · exact h
  · intro h p hp q hq
    rw [mem_pairsA] at hp hq
    rcases Nat.lt_trichotomy p.1 p.2 with hl | hl | hl
    · exact .inr (h p (mem_pairsK.mpr ⟨hl, hp.2⟩) q.1 hq.1 q.2 hq.2)
    · exact .inl hl
    · refine .inr ?_
      rw [cnt2_symm]
      exact h (p.2, p.1) (mem_pairsK.mpr ⟨hl, hp.1⟩) q.2 hq.2 q.1 hq.1
def φ__law_independent : Phi := φ_is_independent
theorem imp__law_independent {Γ : Gam} (e1 : Γ.Φ "_law_pairs_below" = φ__law_pairs_below) (as : List Sl) (P : D → Prop) (PE : Str → Prop) (h : φ__law_independent as P PE) : spW Γ d__law_independent as P PE := by
  obtain ⟨r, n, fs, rfl, hF, hP⟩ := h
  refine ⟨rfl, ?_⟩
  rw [← ind_eq] at hP
  have h1 := hF.r1
  have h2 := hF.r6
  have h3 := hF.f30
  have h8 := hF.n8
  obtain ⟨f0, fr, hfs, hn⟩ := hF.head
  have hH : ∀ Q : D → Prop, dSub1 (.tuple (fs.map rowI)) (.int 0) Q = Q (rowI f0) := fun Q => by rw [hfs]; simp only [true_and, wpSs, wpS, wpE, wpX, wpO, wpC, wpI, ent, kt0, bindT, bindTs, tgsLen, wipeR, constD, owL, List.map_cons, List.map_nil, List.length_cons, List.length_nil, List.replicate, List.cons_append, List.nil_append, Nat.reduceSub, Nat.reduceAdd, List.getElem?_cons_zero, List.getElem?_cons_succ, List.getElem?_nil, List.set_cons_zero, List.set_cons_succ, opF, cmpF, Bi.fd, Option.map_some, if_true, if_false, Bool.true_eq_false, Bool.false_eq_true, reduceIte, Bool.not_true, Bool.not_false, w_some, w_none, w_fz0, w_fz1, w_t0, w_t1, w_t2, w_t3, w_t4, w_add, w_addL, w_addT, w_sub, w_subB, w_mul, w_mulL, w_mulT, w_mod, w_div, w_lt, w_le, w_gt, w_ge, w_is, w_isnt, w_n0, w_n1, w_n2, w_n3, w_n4, w_neg, w_atL, w_atT, w_lenL, w_lenT, w_tupL, w_tupT, w_lisL, w_lisT, w_abs, w_int, w_intB, w_gcd, w_min, w_max, w_seqL, w_seqT, w_augA, w_augS, w_augM, w_intQ, w_lstQ, w_rng1, w_rng2, w_zipL, w_zipT, w_enum, atI0]
  have hN : ∀ Q : D → Prop, dLen [rowI f0] Q = Q (.int n) := fun Q => by simp only [rowI, true_and, wpSs, wpS, wpE, wpX, wpO, wpC, wpI, ent, kt0, bindT, bindTs, tgsLen, wipeR, constD, owL, List.map_cons, List.map_nil, List.length_cons, List.length_nil, List.replicate, List.cons_append, List.nil_append, Nat.reduceSub, Nat.reduceAdd, List.getElem?_cons_zero, List.getElem?_cons_succ, List.getElem?_nil, List.set_cons_zero, List.set_cons_succ, opF, cmpF, Bi.fd, Option.map_some, if_true, if_false, Bool.true_eq_false, Bool.false_eq_true, reduceIte, Bool.not_true, Bool.not_false, w_some, w_none, w_fz0, w_fz1, w_t0, w_t1, w_t2, w_t3, w_t4, w_add, w_addL, w_addT, w_sub, w_subB, w_mul, w_mulL, w_mulT, w_mod, w_div, w_lt, w_le, w_gt, w_ge, w_is, w_isnt, w_n0, w_n1, w_n2, w_n3, w_n4, w_neg, w_atL, w_atT, w_lenL, w_lenT, w_tupL, w_tupT, w_lisL, w_lisT, w_abs, w_int, w_intB, w_gcd, w_min, w_max, w_seqL, w_seqT, w_augA, w_augS, w_augM, w_intQ, w_lstQ, w_rng1, w_rng2, w_zipL, w_zipT, w_enum, List.length_map, hn]
  simp only [d__law_independent, famD, true_and, wpSs, wpS, wpE, wpX, wpO, wpC, wpI, ent, kt0, bindT, bindTs, tgsLen, wipeR, constD, owL, List.map_cons, List.map_nil, List.length_cons, List.length_nil, List.replicate, List.cons_append, List.nil_append, Nat.reduceSub, Nat.reduceAdd, List.getElem?_cons_zero, List.getElem?_cons_succ, List.getElem?_nil, List.set_cons_zero, List.set_cons_succ, opF, cmpF, Bi.fd, Option.map_some, if_true, if_false, Bool.true_eq_false, Bool.false_eq_true, reduceIte, Bool.not_true, Bool.not_false, w_some, w_none, w_fz0, w_fz1, w_t0, w_t1, w_t2, w_t3, w_t4, w_add, w_addL, w_addT, w_sub, w_subB, w_mul, w_mulL, w_mulT, w_mod, w_div, w_lt, w_le, w_gt, w_ge, w_is, w_isnt, w_n0, w_n1, w_n2, w_n3, w_n4, w_neg, w_atL, w_atT, w_lenL, w_lenT, w_tupL, w_tupT, w_lisL, w_lisT, w_abs, w_int, w_intB, w_gcd, w_min, w_max, w_seqL, w_seqT, w_augA, w_augS, w_augM, w_intQ, w_lstQ, w_rng1, w_rng2, w_zipL, w_zipT, w_enum, hH, hN, e1]
  refine ⟨n, rfl, by omega, ?_⟩
  simp only [true_and, wpSs, wpS, wpE, wpX, wpO, wpC, wpI, ent, kt0, bindT, bindTs, tgsLen, wipeR, constD, owL, List.map_cons, List.map_nil, List.length_cons, List.length_nil, List.replicate, List.cons_append, List.nil_append, Nat.reduceSub, Nat.reduceAdd, List.getElem?_cons_zero, List.getElem?_cons_succ, List.getElem?_nil, List.set_cons_zero, List.set_cons_succ, opF, cmpF, Bi.fd, Option.map_some, if_true, if_false, Bool.true_eq_false, Bool.false_eq_true, reduceIte, Bool.not_true, Bool.not_false, w_some, w_none, w_fz0, w_fz1, w_t0, w_t1, w_t2, w_t3, w_t4, w_add, w_addL, w_addT, w_sub, w_subB, w_mul, w_mulL, w_mulT, w_mod, w_div, w_lt, w_le, w_gt, w_ge, w_is, w_isnt, w_n0, w_n1, w_n2, w_n3, w_n4, w_neg, w_atL, w_atT, w_lenL, w_lenT, w_tupL, w_tupT, w_lisL, w_lisT, w_abs, w_int, w_intB, w_gcd, w_min, w_max, w_seqL, w_seqT, w_augA, w_augS, w_augM, w_intQ, w_lstQ, w_rng1, w_rng2, w_zipL, w_zipT, w_enum]
  refine forW_allB (c := fun p => (pairsA r.toNat).all fun q => decide (p.1 = p.2) || decide (cnt2 fs p.1 p.2 q.1 q.2 * r * r = fs.length)) (J := fun ρ => ∃ y3 y4 y5 y6, ρ = [some (.fz (famD r fs)), some (.fz (.int r)), some (.fz (.tuple (fs.map rowI))), y3, y4, y5, y6, none]) (R := P (.bool false))
    ⟨_, _, _, _, rfl⟩ (fun p ρ kk hp hJ hk hR => ?_) (fun hall ρ hJ => ?_) (fun hall => ?_)
  · rw [mem_pairsA] at hp
    obtain ⟨y3, y4, y5, y6, rfl⟩ := hJ
    simp only [pairD, true_and, wpSs, wpS, wpE, wpX, wpO, wpC, wpI, ent, kt0, bindT, bindTs, tgsLen, wipeR, constD, owL, List.map_cons, List.map_nil, List.length_cons, List.length_nil, List.replicate, List.cons_append, List.nil_append, Nat.reduceSub, Nat.reduceAdd, List.getElem?_cons_zero, List.getElem?_cons_succ, List.getElem?_nil, List.set_cons_zero, List.set_cons_succ, opF, cmpF, Bi.fd, Option.map_some, if_true, if_false, Bool.true_eq_false, Bool.false_eq_true, reduceIte, Bool.not_true, Bool.not_false, w_some, w_none, w_fz0, w_fz1, w_t0, w_t1, w_t2, w_t3, w_t4, w_add, w_addL, w_addT, w_sub, w_subB, w_mul, w_mulL, w_mulT, w_mod, w_div, w_lt, w_le, w_gt, w_ge, w_is, w_isnt, w_n0, w_n1, w_n2, w_n3, w_n4, w_neg, w_atL, w_atT, w_lenL, w_lenT, w_tupL, w_tupT, w_lisL, w_lisT, w_abs, w_int, w_intB, w_gcd, w_min, w_max, w_seqL, w_seqT, w_augA, w_augS, w_augM, w_intQ, w_lstQ, w_rng1, w_rng2, w_zipL, w_zipT, w_enum]
    refine ⟨r.toNat, by rw [show ((r.toNat : Nat) : Int) = r by omega], by omega, ?_⟩
    simp only [true_and, wpSs, wpS, wpE, wpX, wpO, wpC, wpI, ent, kt0, bindT, bindTs, tgsLen, wipeR, constD, owL, List.map_cons, List.map_nil, List.length_cons, List.length_nil, List.replicate, List.cons_append, List.nil_append, Nat.reduceSub, Nat.reduceAdd, List.getElem?_cons_zero, List.getElem?_cons_succ, List.getElem?_nil, List.set_cons_zero, List.set_cons_succ, opF, cmpF, Bi.fd, Option.map_some, if_true, if_false, Bool.true_eq_false, Bool.false_eq_true, reduceIte, Bool.not_true, Bool.not_false, w_some, w_none, w_fz0, w_fz1, w_t0, w_t1, w_t2, w_t3, w_t4, w_add, w_addL, w_addT, w_sub, w_subB, w_mul, w_mulL, w_mulT, w_mod, w_div, w_lt, w_le, w_gt, w_ge, w_is, w_isnt, w_n0, w_n1, w_n2, w_n3, w_n4, w_neg, w_atL, w_atT, w_lenL, w_lenT, w_tupL, w_tupT, w_lisL, w_lisT, w_abs, w_int, w_intB, w_gcd, w_min, w_max, w_seqL, w_seqT, w_augA, w_augS, w_augM, w_intQ, w_lstQ, w_rng1, w_rng2, w_zipL, w_zipT, w_enum]
    refine forW_allB (c := fun q => decide (p.1 = p.2) || decide (cnt2 fs p.1 p.2 q.1 q.2 * r * r = fs.length)) (J := fun ρ => ∃ y5 y6, ρ = [some (.fz (famD r fs)), some (.fz (.int r)), some (.fz (.tuple (fs.map rowI))), some (.fz (.int p.1)), some (.fz (.int p.2)), y5, y6, none]) (R := P (.bool false))
      ⟨_, _, rfl⟩ (fun q ρ kk hq hJ hk hR => ?_) (fun hall ρ hJ => ?_) hR
    · obtain ⟨y5, y6, rfl⟩ := hJ
      simp only [pairD, true_and, wpSs, wpS, wpE, wpX, wpO, wpC, wpI, ent, kt0, bindT, bindTs, tgsLen, wipeR, constD, owL, List.map_cons, List.map_nil, List.length_cons, List.length_nil, List.replicate, List.cons_append, List.nil_append, Nat.reduceSub, Nat.reduceAdd, List.getElem?_cons_zero, List.getElem?_cons_succ, List.getElem?_nil, List.set_cons_zero, List.set_cons_succ, opF, cmpF, Bi.fd, Option.map_some, if_true, if_false, Bool.true_eq_false, Bool.false_eq_true, reduceIte, Bool.not_true, Bool.not_false, w_some, w_none, w_fz0, w_fz1, w_t0, w_t1, w_t2, w_t3, w_t4, w_add, w_addL, w_addT, w_sub, w_subB, w_mul, w_mulL, w_mulT, w_mod, w_div, w_lt, w_le, w_gt, w_ge, w_is, w_isnt, w_n0, w_n1, w_n2, w_n3, w_n4, w_neg, w_atL, w_atT, w_lenL, w_lenT, w_tupL, w_tupT, w_lisL, w_lisT, w_abs, w_int, w_intB, w_gcd, w_min, w_max, w_seqL, w_seqT, w_augA, w_augS, w_augM, w_intQ, w_lstQ, w_rng1, w_rng2, w_zipL, w_zipT, w_enum]
      refine dNeI ?_
      by_cases hc : p.1 = p.2
      · have hc' : (p.1 : Int) = p.2 := by omega
        rw [decide_eq_true hc']
        simp only [true_and, wpSs, wpS, wpE, wpX, wpO, wpC, wpI, ent, kt0, bindT, bindTs, tgsLen, wipeR, constD, owL, List.map_cons, List.map_nil, List.length_cons, List.length_nil, List.replicate, List.cons_append, List.nil_append, Nat.reduceSub, Nat.reduceAdd, List.getElem?_cons_zero, List.getElem?_cons_succ, List.getElem?_nil, List.set_cons_zero, List.set_cons_succ, opF, cmpF, Bi.fd, Option.map_some, if_true, if_false, Bool.true_eq_false, Bool.false_eq_true, reduceIte, Bool.not_true, Bool.not_false, w_some, w_none, w_fz0, w_fz1, w_t0, w_t1, w_t2, w_t3, w_t4, w_add, w_addL, w_addT, w_sub, w_subB, w_mul, w_mulL, w_mulT, w_mod, w_div, w_lt, w_le, w_gt, w_ge, w_is, w_isnt, w_n0, w_n1, w_n2, w_n3, w_n4, w_neg, w_atL, w_atT, w_lenL, w_lenT, w_tupL, w_tupT, w_lisL, w_lisT, w_abs, w_int, w_intB, w_gcd, w_min, w_max, w_seqL, w_seqT, w_augA, w_augS, w_augM, w_intQ, w_lstQ, w_rng1, w_rng2, w_zipL, w_zipT, w_enum]
        exact hk (by simp [hc]) _ ⟨_, _, rfl⟩
      · have hc' : ¬ (p.1 : Int) = p.2 := by omega
        rw [decide_eq_false hc']
        simp only [true_and, wpSs, wpS, wpE, wpX, wpO, wpC, wpI, ent, kt0, bindT, bindTs, tgsLen, wipeR, constD, owL, List.map_cons, List.map_nil, List.length_cons, List.length_nil, List.replicate, List.cons_append, List.nil_append, Nat.reduceSub, Nat.reduceAdd, List.getElem?_cons_zero, List.getElem?_cons_succ, List.getElem?_nil, List.set_cons_zero, List.set_cons_succ, opF, cmpF, Bi.fd, Option.map_some, if_true, if_false, Bool.true_eq_false, Bool.false_eq_true, reduceIte, Bool.not_true, Bool.not_false, w_some, w_none, w_fz0, w_fz1, w_t0, w_t1, w_t2, w_t3, w_t4, w_add, w_addL, w_addT, w_sub, w_subB, w_mul, w_mulL, w_mulT, w_mod, w_div, w_lt, w_le, w_gt, w_ge, w_is, w_isnt, w_n0, w_n1, w_n2, w_n3, w_n4, w_neg, w_atL, w_atT, w_lenL, w_lenT, w_tupL, w_tupT, w_lisL, w_lisT, w_abs, w_int, w_intB, w_gcd, w_min, w_max, w_seqL, w_seqT, w_augA, w_augS, w_augM, w_intQ, w_lstQ, w_rng1, w_rng2, w_zipL, w_zipT, w_enum]
        refine ⟨by rw [List.length_map]; exact small (by omega), ?_⟩
        refine walk2 (fun _ => PyData.int 1) hF.len (a := p.1) (b := p.2) (v := q.1) (w := q.2) hp.1 hp.2 (fun f acc kk hf hk => ?_) ?_
        · have hl := hF.len f hf
          simp only [rowI, true_and, wpSs, wpS, wpE, wpX, wpO, wpC, wpI, ent, kt0, bindT, bindTs, tgsLen, wipeR, constD, owL, List.map_cons, List.map_nil, List.length_cons, List.length_nil, List.replicate, List.cons_append, List.nil_append, Nat.reduceSub, Nat.reduceAdd, List.getElem?_cons_zero, List.getElem?_cons_succ, List.getElem?_nil, List.set_cons_zero, List.set_cons_succ, opF, cmpF, Bi.fd, Option.map_some, if_true, if_false, Bool.true_eq_false, Bool.false_eq_true, reduceIte, Bool.not_true, Bool.not_false, w_some, w_none, w_fz0, w_fz1, w_t0, w_t1, w_t2, w_t3, w_t4, w_add, w_addL, w_addT, w_sub, w_subB, w_mul, w_mulL, w_mulT, w_mod, w_div, w_lt, w_le, w_gt, w_ge, w_is, w_isnt, w_n0, w_n1, w_n2, w_n3, w_n4, w_neg, w_atL, w_atT, w_lenL, w_lenT, w_tupL, w_tupT, w_lisL, w_lisT, w_abs, w_int, w_intB, w_gcd, w_min, w_max, w_seqL, w_seqT, w_augA, w_augS, w_augM, w_intQ, w_lstQ, w_rng1, w_rng2, w_zipL, w_zipT, w_enum, atI_row (show p.1 < f.length by omega), atI_row (show p.2 < f.length by omega)]
          exact hk
        · have c2 := cnt2_le fs p.1 p.2 q.1 q.2
          have eL : (((fs.filter fun f => decide (gx f p.1 = q.1) && decide (gx f p.2 = q.2)).map fun _ => PyData.int 1).length : Int) = cnt2 fs p.1 p.2 q.1 q.2 := by rw [List.length_map]; rfl
          rw [eL, List.length_map]
          have b1 : Bd 5 (cnt2 fs p.1 p.2 q.1 q.2) := bd5 (by omega) (by omega)
          have b2 : Bd 5 r := bd5 (by omega) (by omega)
          refine ⟨b1.mulOk b2 (by decide), (b1.mul b2).mulOk b2 (by decide), ?_⟩
          refine dNeI ?_
          by_cases hd : cnt2 fs p.1 p.2 q.1 q.2 * r * r = fs.length
          · rw [decide_eq_true hd]
            simp only [true_and, wpSs, wpS, wpE, wpX, wpO, wpC, wpI, ent, kt0, bindT, bindTs, tgsLen, wipeR, constD, owL, List.map_cons, List.map_nil, List.length_cons, List.length_nil, List.replicate, List.cons_append, List.nil_append, Nat.reduceSub, Nat.reduceAdd, List.getElem?_cons_zero, List.getElem?_cons_succ, List.getElem?_nil, List.set_cons_zero, List.set_cons_succ, opF, cmpF, Bi.fd, Option.map_some, if_true, if_false, Bool.true_eq_false, Bool.false_eq_true, reduceIte, Bool.not_true, Bool.not_false, w_some, w_none, w_fz0, w_fz1, w_t0, w_t1, w_t2, w_t3, w_t4, w_add, w_addL, w_addT, w_sub, w_subB, w_mul, w_mulL, w_mulT, w_mod, w_div, w_lt, w_le, w_gt, w_ge, w_is, w_isnt, w_n0, w_n1, w_n2, w_n3, w_n4, w_neg, w_atL, w_atT, w_lenL, w_lenT, w_tupL, w_tupT, w_lisL, w_lisT, w_abs, w_int, w_intB, w_gcd, w_min, w_max, w_seqL, w_seqT, w_augA, w_augS, w_augM, w_intQ, w_lstQ, w_rng1, w_rng2, w_zipL, w_zipT, w_enum]
            exact hk (by simp [hd]) _ ⟨_, _, rfl⟩
          · rw [decide_eq_false hd]
            simp only [true_and, wpSs, wpS, wpE, wpX, wpO, wpC, wpI, ent, kt0, bindT, bindTs, tgsLen, wipeR, constD, owL, List.map_cons, List.map_nil, List.length_cons, List.length_nil, List.replicate, List.cons_append, List.nil_append, Nat.reduceSub, Nat.reduceAdd, List.getElem?_cons_zero, List.getElem?_cons_succ, List.getElem?_nil, List.set_cons_zero, List.set_cons_succ, opF, cmpF, Bi.fd, Option.map_some, if_true, if_false, Bool.true_eq_false, Bool.false_eq_true, reduceIte, Bool.not_true, Bool.not_false, w_some, w_none, w_fz0, w_fz1, w_t0, w_t1, w_t2, w_t3, w_t4, w_add, w_addL, w_addT, w_sub, w_subB, w_mul, w_mulL, w_mulT, w_mod, w_div, w_lt, w_le, w_gt, w_ge, w_is, w_isnt, w_n0, w_n1, w_n2, w_n3, w_n4, w_neg, w_atL, w_atT, w_lenL, w_lenT, w_tupL, w_tupT, w_lisL, w_lisT, w_abs, w_int, w_intB, w_gcd, w_min, w_max, w_seqL, w_seqT, w_augA, w_augS, w_augM, w_intQ, w_lstQ, w_rng1, w_rng2, w_zipL, w_zipT, w_enum]
            exact hR (by simp [hd, hc])
    · obtain ⟨y5, y6, rfl⟩ := hJ
      exact hk hall _ ⟨_, _, _, _, rfl⟩
  · obtain ⟨y3, y4, y5, y6, rfl⟩ := hJ
    rw [show lindB r n fs = true from hall] at hP
    exact hP
  · rw [show lindB r n fs = false from hall] at hP
    exact hP
end DL

set_option Elab.async false
set_option linter.all false
set_option maxRecDepth 100000
set_option maxHeartbeats 4000000
namespace DL
open PySem PySem.Spec PyProof.Rows L2
/-! ### chance rows: weights over their sum -/
structure RowW (m : Nat) (ws : List Int) (S : Int) : Prop where
  len : ws.length = m
  pos : ∀ w ∈ ws, 0 ≤ w
  sum : ws.sum = S
  s1 : 1 ≤ S
  s2 : S ≤ 127
def rowD (ws : List Int) (S : Int) : D := .tuple (ws.map fun w => qD (Rat.divInt w S))
theorem qsum_div (S : Int) (hS : S ≠ 0) : ∀ ws : List Int, qsum (ws.map fun w => Rat.divInt w S) = Rat.divInt ws.sum S
  | [] => by rw [List.map_nil, List.sum_nil, Rat.zero_divInt]; rfl
  | w :: ws => by
    rw [List.map_cons, qsum_cons, qsum_div S hS ws, List.sum_cons, Rat.divInt_add_divInt _ _ hS hS, ← Int.add_mul, Rat.divInt_mul_right hS]
theorem sum_nonneg : ∀ {ws : List Int}, (∀ w ∈ ws, 0 ≤ w) → 0 ≤ ws.sum
  | [], _ => by simp
  | w :: ws, h => by
    have h1 := h w List.mem_cons_self
    have h2 := sum_nonneg (ws := ws) fun x hx => h x (List.mem_cons_of_mem _ hx)
    rw [List.sum_cons]
    omega
theorem le_sum {ws : List Int} (h : ∀ w ∈ ws, 0 ≤ w) {x : Int} (hx : x ∈ ws) : x ≤ ws.sum := by
  induction ws with
  | nil => cases hx
  | cons w ws ih =>
    have h1 := h w List.mem_cons_self
    have h2 := sum_nonneg (ws := ws) fun x hx => h x (List.mem_cons_of_mem _ hx)
    rw [List.sum_cons]
    rcases List.mem_cons.mp hx with rfl | hx
    · omega
    · have := ih (fun y hy => h y (List.mem_cons_of_mem _ hy)) hx
      omega
theorem bdN {n : Nat} {i : Int} (h : i.natAbs < 2 ^ n) : Bd n i := h
theorem bd7 {i : Int} (h : 0 ≤ i) (h2 : i ≤ 127) : Bd 7 i := by
  show i.natAbs < 2 ^ 7
  omega
/-- nonnegative numbers over S whose sum is at most B: all on the way are small -/
theorem sums_div {n : Nat} {ws : List Int} {S : Int} (hS : 0 < S) (hp : ∀ w ∈ ws, 0 ≤ w) (hb : Bd n ws.sum) (hs : Bd n S) : Sums n (ws.map fun w => Rat.divInt w S) := by
  refine ⟨fun x hx => ?_, fun d e he => ?_⟩
  · obtain ⟨w, hw, rfl⟩ := List.mem_map.mp hx
    have h1 := hp w hw
    have h2 := le_sum hp hw
    exact Sz.divInt (hb.le (by omega)) hs (by omega) (Nat.le_refl _) (Nat.le_refl _)
  · obtain ⟨d', e', rfl, rfl, rfl⟩ := List.map_eq_append_iff.mp he
    rw [qsum_div S (by omega)]
    have h1 := sum_nonneg (ws := d') fun w hw => hp w (by simp [hw])
    have h2 := sum_nonneg (ws := e') fun w hw => hp w (by simp [hw])
    rw [List.sum_append] at hb
    exact Sz.divInt (hb.le (by omega)) hs (by omega) (Nat.le_refl _) (Nat.le_refl _)
def φ__law_row : Phi := fun as P _ => ∃ m : Nat, as = [.dr, .fz (.int m)] ∧ 1 ≤ m ∧ m ≤ 30 ∧ ∀ ws S, RowW m ws S → P (rowD ws S)
theorem paired_ints {α : Type} {R : Int → Prop} {l : List α} {ys : List D} (h : Paired (fun _ y => ∃ i, y = PyData.int i ∧ R i) l ys) : ∃ ws : List Int, ys = ws.map PyData.int ∧ ws.length = l.length ∧ ∀ w ∈ ws, R w := by
  induction h with
  | nil => exact ⟨[], rfl, rfl, nofun⟩
  | cons h1 _ ih =>
    obtain ⟨i, rfl, hi⟩ := h1
    obtain ⟨ws, rfl, h2, h3⟩ := ih
    exact ⟨i :: ws, rfl, by simp [h2], fun w hw => by
      rcases List.mem_cons.mp hw with rfl | hw
      · exact hi
      · exact h3 w hw⟩
theorem sum_le_mul : ∀ {ws : List Int} {B : Int}, (∀ w ∈ ws, w ≤ B) → ws.sum ≤ B * ws.length
  | [], B, _ => by simp
  | w :: ws, B, h => by
    have h1 := h w List.mem_cons_self
    have h2 := sum_le_mul (ws := ws) (B := B) fun x hx => h x (List.mem_cons_of_mem _ hx)
    rw [List.sum_cons, List.length_cons]
    have : B * ((ws.length + 1 : Nat) : Int) = B * ws.length + B := by rw [Int.natCast_succ, Int.mul_add, Int.mul_one]
    omega
theorem sum_set : ∀ {ws : List Int} {j : Nat} {x : Int}, (h : j < ws.length) → (ws.set j x).sum = ws.sum - ws[j] + x
  | w :: ws, 0, x, _ => by simp; omega
  | w :: ws, j + 1, x, h => by
    have := sum_set (ws := ws) (j := j) (x := x) (by simpa using h)
    simp only [List.set_cons_succ, List.sum_cons, this, List.getElem_cons_succ]
    omega
theorem imp__law_row {Γ : Gam} (e1 : Γ.Φ "_law_take" = φTake) (e2 : Γ.Φ "_law_lowest" = φ__law_lowest) (as : List Sl) (P : D → Prop) (PE : Str → Prop) (h : φ__law_row as P PE) : spW Γ d__law_row as P PE := by
  obtain ⟨m, rfl, hm1, hm2, hP⟩ := h
  refine ⟨rfl, ?_⟩
  simp only [d__law_row, true_and, wpSs, wpS, wpE, wpX, wpO, wpC, wpI, ent, kt0, bindT, bindTs, tgsLen, wipeR, constD, owL, List.map_cons, List.map_nil, List.length_cons, List.length_nil, List.replicate, List.cons_append, List.nil_append, Nat.reduceSub, Nat.reduceAdd, List.getElem?_cons_zero, List.getElem?_cons_succ, List.getElem?_nil, List.set_cons_zero, List.set_cons_succ, opF, cmpF, Bi.fd, Option.map_some, if_true, if_false, Bool.true_eq_false, Bool.false_eq_true, reduceIte, Bool.not_true, Bool.not_false, w_some, w_none, w_fz0, w_fz1, w_t0, w_t1, w_t2, w_t3, w_t4, w_add, w_addL, w_addT, w_sub, w_subB, w_mul, w_mulL, w_mulT, w_mod, w_div, w_lt, w_le, w_gt, w_ge, w_is, w_isnt, w_n0, w_n1, w_n2, w_n3, w_n4, w_neg, w_atL, w_atT, w_lenL, w_lenT, w_tupL, w_tupT, w_lisL, w_lisT, w_abs, w_int, w_intB, w_gcd, w_min, w_max, w_seqL, w_seqT, w_augA, w_augS, w_augM, w_intQ, w_lstQ, w_rng1, w_rng2, w_zipL, w_zipT, w_enum, e1]
  refine ⟨rngOk_small (by omega) (by omega), ?_⟩
  rw [Int.toNat_natCast, rangeD0]
  refine ⟨by rw [List.length_map, List.length_range]; exact small (by omega), ?_⟩
  refine foldW_any (R := fun _ y => ∃ i : Int, y = PyData.int i ∧ (0 ≤ i ∧ i ≤ 3)) (fun k acc kk hk hkk => ?_) (fun ys hys => ?_)
  · refine ⟨5, rfl, by decide, by decide, fun z z0 z1 => ?_⟩
    have : z = 0 ∨ z = 1 ∨ z = 2 ∨ z = 3 ∨ z = 4 := by omega
    rcases this with rfl | rfl | rfl | rfl | rfl
    · exact hkk _ ⟨0, rfl, by decide, by decide⟩
    · exact hkk _ ⟨1, rfl, by decide, by decide⟩
    · exact hkk _ ⟨1, rfl, by decide, by decide⟩
    · exact hkk _ ⟨2, rfl, by decide, by decide⟩
    · exact hkk _ ⟨3, rfl, by decide, by decide⟩
  · obtain ⟨ws, rfl, hl, hw⟩ := paired_ints hys
    rw [List.length_range] at hl
    refine ⟨(m : Int), rfl, by omega, by omega, fun z z0 z1 => ?_⟩
    obtain ⟨j, rfl⟩ : ∃ j : Nat, z = (j : Int) := ⟨z.toNat, by omega⟩
    have hj : j < ws.length := by omega
    have ea : atI (ws.map PyData.int) (j : Int) = some (.int ws[j]) := atI_nat (by rw [List.getElem?_map, List.getElem?_eq_getElem hj]; rfl)
    have ei : ixN (ws.map PyData.int).length (j : Int) = some j := by
      unfold ixN
      rw [List.length_map, if_pos (by omega), if_pos (by omega), Int.toNat_natCast]
    simp only [true_and, wpSs, wpS, wpE, wpX, wpO, wpC, wpI, ent, kt0, bindT, bindTs, tgsLen, wipeR, constD, owL, List.map_cons, List.map_nil, List.length_cons, List.length_nil, List.replicate, List.cons_append, List.nil_append, Nat.reduceSub, Nat.reduceAdd, List.getElem?_cons_zero, List.getElem?_cons_succ, List.getElem?_nil, List.set_cons_zero, List.set_cons_succ, opF, cmpF, Bi.fd, Option.map_some, if_true, if_false, Bool.true_eq_false, Bool.false_eq_true, reduceIte, Bool.not_true, Bool.not_false, w_some, w_none, w_fz0, w_fz1, w_t0, w_t1, w_t2, w_t3, w_t4, w_add, w_addL, w_addT, w_sub, w_subB, w_mul, w_mulL, w_mulT, w_mod, w_div, w_lt, w_le, w_gt, w_ge, w_is, w_isnt, w_n0, w_n1, w_n2, w_n3, w_n4, w_neg, w_atL, w_atT, w_lenL, w_lenT, w_tupL, w_tupT, w_lisL, w_lisT, w_abs, w_int, w_intB, w_gcd, w_min, w_max, w_seqL, w_seqT, w_augA, w_augS, w_augM, w_intQ, w_lstQ, w_rng1, w_rng2, w_zipL, w_zipT, w_enum, ea, ei]
    have es : (ws.map PyData.int).set j (PyData.int (ws[j] + 1)) = (ws.set j (ws[j] + 1)).map PyData.int := List.map_set.symm
    rw [es]
    have hsum : (ws.set j (ws[j] + 1)).sum = ws.sum + 1 := by rw [sum_set hj]; omega
    have hnn : ∀ w ∈ ws.set j (ws[j] + 1), 0 ≤ w := fun w hw2 => by
      rcases List.mem_or_eq_of_mem_set hw2 with h | h
      · exact (hw w h).1
      · have := (hw _ (List.getElem_mem hj)).1
        omega
    have s0 := sum_nonneg fun w h => (hw w h).1
    have s3 := sum_le_mul (B := 3) fun w h => (hw w h).2
    have hR : RowW m (ws.set j (ws[j] + 1)) (ws.sum + 1) := ⟨by rw [List.length_set]; exact hl, hnn, hsum, by omega, by rw [hl] at s3; omega⟩
    have hP := hP _ _ hR
    generalize ws.set j (ws[j] + 1) = us at *
    generalize ws.sum + 1 = S at *
    refine ⟨by rw [List.length_map, hR.len]; exact small (by omega), ?_⟩
    refine foldW_map (fun w => qD (Rat.divInt w S)) (fun w acc kk hw hk => ?_) ?_
    · have h1 := hR.s1
      have h2 := hR.s2
      have h3 := hnn w hw
      have h4 := le_sum hnn hw
      simp only [dSum, intsOf_map, w_some, e2, hsum]
      exact ⟨w, S, 7, 7, rfl, by omega, bd7 h3 (by omega), bd7 (by omega) h2, by decide, by decide, hk⟩
    · exact hP
end DL

set_option Elab.async false
set_option linter.all false
set_option maxRecDepth 100000
set_option maxHeartbeats 4000000
namespace DL
open PySem PySem.Spec PyProof.Rows L2
/-! ### drawn functions -/
def cfv (n : Nat) (ws f : List Int) (v : Nat) : Int := (((List.range n).filter fun k => decide (gx f k = v)).map fun k => gx ws k).sum
def duesI (r : Int) (n : Nat) (ws : List Int) (fs : List (List Int)) : List Int := fs.flatMap fun f => (List.range r.toNat).map fun v => cfv n ws f v
theorem gx_range {ws : List Int} {n : Nat} (h : ws.length = n) : (List.range n).map (fun k => gx ws k) = ws := by
  subst h
  apply List.ext_getElem?
  intro i
  rw [List.getElem?_map]
  by_cases hi : i < ws.length
  · rw [List.getElem?_range hi, List.getElem?_eq_getElem hi]
    show some (gx ws i) = _
    unfold gx
    rw [List.getD_eq_getElem?_getD, List.getElem?_eq_getElem hi]
    rfl
  · rw [List.getElem?_eq_none (by simpa using hi), List.getElem?_eq_none (by omega)]
    rfl
theorem gx_pos {ws : List Int} (h : ∀ w ∈ ws, 0 ≤ w) (k : Nat) : 0 ≤ gx ws k := by
  unfold gx
  by_cases hk : k < ws.length
  · rw [List.getD_eq_getElem?_getD, List.getElem?_eq_getElem hk]
    exact h _ (List.getElem_mem hk)
  · rw [List.getD_eq_getElem?_getD, List.getElem?_eq_none (by omega)]
    exact Int.le_refl _
theorem sum_filter_le {α : Type} (g : α → Int) (c : α → Bool) : ∀ (l : List α), (∀ x ∈ l, 0 ≤ g x) → ((l.filter c).map g).sum ≤ (l.map g).sum
  | [], _ => by simp
  | x :: l, h => by
    have h1 := h x List.mem_cons_self
    have h2 := sum_filter_le g c l fun y hy => h y (List.mem_cons_of_mem _ hy)
    rw [List.filter_cons]
    split
    · simp only [List.map_cons, List.sum_cons]; omega
    · simp only [List.map_cons, List.sum_cons]; omega
theorem cfv_bd {n : Nat} {ws : List Int} {S : Int} (h : RowW n ws S) (f : List Int) (v : Nat) : 0 ≤ cfv n ws f v ∧ cfv n ws f v ≤ S := by
  constructor
  · exact sum_nonneg fun w hw => by
      obtain ⟨k, _, rfl⟩ := List.mem_map.mp hw
      exact gx_pos h.pos k
  · refine Int.le_trans (sum_filter_le _ _ _ fun k _ => gx_pos h.pos k) ?_
    rw [gx_range h.len, h.sum]
    exact Int.le_refl _
theorem rowD_at {n : Nat} {ws : List Int} {S : Int} (h : RowW n ws S) {k : Nat} (hk : k < n) (Q : D → Prop) : dSub1 (rowD ws S) (.int k) Q = Q (qD (Rat.divInt (gx ws k) S)) := by
  have e : atI (ws.map fun w => qD (Rat.divInt w S)) (k : Int) = some (qD (Rat.divInt (gx ws k) S)) := by
    refine atI_nat ?_
    rw [List.getElem?_map, List.getElem?_eq_getElem (by rw [h.len]; exact hk)]
    unfold gx
    rw [List.getD_eq_getElem?_getD, List.getElem?_eq_getElem (by rw [h.len]; exact hk)]
    rfl
  simp only [rowD, w_atT, e, w_some]
theorem rowD_len {n : Nat} {ws : List Int} {S : Int} (h : RowW n ws S) (Q : D → Prop) : dLen [rowD ws S] Q = Q (.int n) := by
  simp only [rowD, w_lenT, List.length_map, h.len]
def dueE (S : Int) (N : Nat) (c : Int) : D := qD (Rat.divInt c (S * N))
theorem share_mul {c S : Int} {N : Nat} : Rat.divInt 1 N * Rat.divInt c S = Rat.divInt c (S * N) := by
  rw [Rat.divInt_mul_divInt, Int.one_mul, Int.mul_comm]
/-- the sum of the chances of the keys with this value -/
theorem chance_args {n : Nat} {ws : List Int} {S : Int} (h : RowW n ws S) (f : List Int) (v : Nat) (Q : D → Prop) (hQ : Q (qD (Rat.divInt (cfv n ws f v) S))) (PE : Str → Prop) :
    φ_total [.fz (.list (((List.range n).filter fun k => decide (gx f k = v)).map fun k => qD (Rat.divInt (gx ws k) S)))] Q PE := by
  have h1 := h.s1
  have h2 := h.s2
  obtain ⟨c0, c1⟩ := cfv_bd h f v
  refine ⟨true, ((((List.range n).filter fun k => decide (gx f k = v)).map fun k => gx ws k).map fun w => Rat.divInt w S), 7, ?_, sums_div (by omega) (fun w hw => ?_) (bd7 c0 (by unfold cfv at c1; exact Int.le_trans c1 h2)) (bd7 (by omega) h2), by decide, ?_⟩
  · show _ = [Sl.fz (PyData.list _)]
    rw [List.map_map, List.map_map]
    rfl
  · obtain ⟨k, _, rfl⟩ := List.mem_map.mp hw
    exact gx_pos h.pos k
  · rw [qsum_div S (by omega)]
    exact hQ
def φ_drawn : Phi := fun as P _ => ∃ (r : Int) (n : Nat) (fs : List (List Int)) (ws : List Int) (S : Int), as = [.fz (famD r fs), .fz (rowD ws S)] ∧ Fam r n fs ∧ RowW n ws S ∧ P (.tuple ((duesI r n ws fs).map (dueE S fs.length)))
theorem dues_len (r : Int) (n : Nat) (ws : List Int) : ∀ fs : List (List Int), (duesI r n ws fs).length = fs.length * r.toNat
  | [] => by simp [duesI]
  | f :: fs => by
    have := dues_len r n ws fs
    unfold duesI at this ⊢
    rw [List.flatMap_cons, List.length_append, this, List.length_cons, Nat.succ_mul]
    simp
    omega
theorem imp_drawn {Γ : Gam} (e1 : Γ.Φ "lowest" = φ_lowest) (e2 : Γ.Φ "total_of" = φ_total_of) (e3 : Γ.Φ "times" = φ_times) (as : List Sl) (P : D → Prop) (PE : Str → Prop) (h : φ_drawn as P PE) : spW Γ d_drawn as P PE := by
  obtain ⟨r, n, fs, ws, S, rfl, hF, hR, hP⟩ := h
  refine ⟨rfl, ?_⟩
  have r1 := hF.r1
  have r6 := hF.r6
  have f1 := hF.f1
  have f30 := hF.f30
  have s1 := hR.s1
  have s2 := hR.s2
  have n8 := hF.n8
  simp only [d_drawn, famD, true_and, wpSs, wpS, wpE, wpX, wpO, wpC, wpI, ent, kt0, bindT, bindTs, tgsLen, wipeR, constD, owL, List.map_cons, List.map_nil, List.length_cons, List.length_nil, List.replicate, List.cons_append, List.nil_append, Nat.reduceSub, Nat.reduceAdd, List.getElem?_cons_zero, List.getElem?_cons_succ, List.getElem?_nil, List.set_cons_zero, List.set_cons_succ, opF, cmpF, Bi.fd, Option.map_some, if_true, if_false, Bool.true_eq_false, Bool.false_eq_true, reduceIte, Bool.not_true, Bool.not_false, w_some, w_none, w_fz0, w_fz1, w_t0, w_t1, w_t2, w_t3, w_t4, w_add, w_addL, w_addT, w_sub, w_subB, w_mul, w_mulL, w_mulT, w_mod, w_div, w_lt, w_le, w_gt, w_ge, w_is, w_isnt, w_n0, w_n1, w_n2, w_n3, w_n4, w_neg, w_atL, w_atT, w_lenL, w_lenT, w_tupL, w_tupT, w_lisL, w_lisT, w_abs, w_int, w_intB, w_gcd, w_min, w_max, w_seqL, w_seqT, w_augA, w_augS, w_augM, w_intQ, w_lstQ, w_rng1, w_rng2, w_zipL, w_zipT, w_enum, e1, e2, e3, List.length_map]
  refine ⟨_, _, 5, rfl, by omega, hF.bd, by decide, ?_⟩
  refine forW_inv (I := fun done ρ => ∃ y6 y7 y8, ρ = [some (.fz (famD r fs)), some (.fz (rowD ws S)), some (.fz (.int r)), some (.fz (.tuple (fs.map rowI))), some (.fz (qD (Rat.divInt 1 fs.length))), some (.ow (.list ((duesI r n ws done).map (dueE S fs.length)))), y6, y7, y8, none])
    ⟨none, none, none, rfl⟩ (fun done f rest ρ kk el hI hk => ?_) (fun ρ hI => ?_)
  · obtain ⟨y6, y7, y8, rfl⟩ := hI
    have hfm : f ∈ fs := by rw [el]; simp
    have hlf := hF.len f hfm
    have hdl : done.length + 1 ≤ fs.length := by rw [el]; simp
    simp only [true_and, wpSs, wpS, wpE, wpX, wpO, wpC, wpI, ent, kt0, bindT, bindTs, tgsLen, wipeR, constD, owL, List.map_cons, List.map_nil, List.length_cons, List.length_nil, List.replicate, List.cons_append, List.nil_append, Nat.reduceSub, Nat.reduceAdd, List.getElem?_cons_zero, List.getElem?_cons_succ, List.getElem?_nil, List.set_cons_zero, List.set_cons_succ, opF, cmpF, Bi.fd, Option.map_some, if_true, if_false, Bool.true_eq_false, Bool.false_eq_true, reduceIte, Bool.not_true, Bool.not_false, w_some, w_none, w_fz0, w_fz1, w_t0, w_t1, w_t2, w_t3, w_t4, w_add, w_addL, w_addT, w_sub, w_subB, w_mul, w_mulL, w_mulT, w_mod, w_div, w_lt, w_le, w_gt, w_ge, w_is, w_isnt, w_n0, w_n1, w_n2, w_n3, w_n4, w_neg, w_atL, w_atT, w_lenL, w_lenT, w_tupL, w_tupT, w_lisL, w_lisT, w_abs, w_int, w_intB, w_gcd, w_min, w_max, w_seqL, w_seqT, w_augA, w_augS, w_augM, w_intQ, w_lstQ, w_rng1, w_rng2, w_zipL, w_zipT, w_enum]
    refine ⟨rngOk_small (by omega) (by omega), ?_⟩
    rw [rangeD0]
    refine forW_inv (I := fun d2 ρ => ∃ y7 y8, ρ = [some (.fz (famD r fs)), some (.fz (rowD ws S)), some (.fz (.int r)), some (.fz (.tuple (fs.map rowI))), some (.fz (qD (Rat.divInt 1 fs.length))), some (.ow (.list ((duesI r n ws done ++ d2.map fun v => cfv n ws f v).map (dueE S fs.length)))), some (.fz (rowI f)), y7, y8, none])
      ⟨y7, y8, by simp⟩ (fun d2 v rest2 ρ kk el2 hI hk => ?_) (fun ρ hI => ?_)
    · obtain ⟨y7, y8, rfl⟩ := hI
      have hd2 : d2.length < r.toNat := by
        have := congrArg List.length el2
        rw [List.length_range, List.length_append, List.length_cons] at this
        omega
      simp only [true_and, wpSs, wpS, wpE, wpX, wpO, wpC, wpI, ent, kt0, bindT, bindTs, tgsLen, wipeR, constD, owL, List.map_cons, List.map_nil, List.length_cons, List.length_nil, List.replicate, List.cons_append, List.nil_append, Nat.reduceSub, Nat.reduceAdd, List.getElem?_cons_zero, List.getElem?_cons_succ, List.getElem?_nil, List.set_cons_zero, List.set_cons_succ, opF, cmpF, Bi.fd, Option.map_some, if_true, if_false, Bool.true_eq_false, Bool.false_eq_true, reduceIte, Bool.not_true, Bool.not_false, w_some, w_none, w_fz0, w_fz1, w_t0, w_t1, w_t2, w_t3, w_t4, w_add, w_addL, w_addT, w_sub, w_subB, w_mul, w_mulL, w_mulT, w_mod, w_div, w_lt, w_le, w_gt, w_ge, w_is, w_isnt, w_n0, w_n1, w_n2, w_n3, w_n4, w_neg, w_atL, w_atT, w_lenL, w_lenT, w_tupL, w_tupT, w_lisL, w_lisT, w_abs, w_int, w_intB, w_gcd, w_min, w_max, w_seqL, w_seqT, w_augA, w_augS, w_augM, w_intQ, w_lstQ, w_rng1, w_rng2, w_zipL, w_zipT, w_enum, rowD_len hR]
      refine ⟨rngOk_small (by omega) (by omega), ?_⟩
      rw [Int.toNat_natCast, rangeD0]
      refine ⟨by rw [List.length_map, List.length_range]; exact small (by omega), ?_⟩
      refine foldW_filter (fun k => decide (gx f k = v)) (fun k => qD (Rat.divInt (gx ws k) S)) (fun k acc kk hkm hk => ?_) ?_
      · rw [List.mem_range] at hkm
        simp only [rowI, true_and, wpSs, wpS, wpE, wpX, wpO, wpC, wpI, ent, kt0, bindT, bindTs, tgsLen, wipeR, constD, owL, List.map_cons, List.map_nil, List.length_cons, List.length_nil, List.replicate, List.cons_append, List.nil_append, Nat.reduceSub, Nat.reduceAdd, List.getElem?_cons_zero, List.getElem?_cons_succ, List.getElem?_nil, List.set_cons_zero, List.set_cons_succ, opF, cmpF, Bi.fd, Option.map_some, if_true, if_false, Bool.true_eq_false, Bool.false_eq_true, reduceIte, Bool.not_true, Bool.not_false, w_some, w_none, w_fz0, w_fz1, w_t0, w_t1, w_t2, w_t3, w_t4, w_add, w_addL, w_addT, w_sub, w_subB, w_mul, w_mulL, w_mulT, w_mod, w_div, w_lt, w_le, w_gt, w_ge, w_is, w_isnt, w_n0, w_n1, w_n2, w_n3, w_n4, w_neg, w_atL, w_atT, w_lenL, w_lenT, w_tupL, w_tupT, w_lisL, w_lisT, w_abs, w_int, w_intB, w_gcd, w_min, w_max, w_seqL, w_seqT, w_augA, w_augS, w_augM, w_intQ, w_lstQ, w_rng1, w_rng2, w_zipL, w_zipT, w_enum, atI_row (show k < f.length by omega), rowD_at hR hkm]
        refine dEqI ?_
        by_cases hc : gx f k = v
        · rw [decide_eq_true hc] at hk ⊢
          exact hk
        · rw [decide_eq_false hc] at hk ⊢
          exact hk
      · refine chance_args hR f v _ ?_ _
        obtain ⟨c0, c1⟩ := cfv_bd hR f v
        refine ⟨_, _, 5, 7, rfl, Sz.divInt (bd5 (by omega) (by omega)) hF.bd (by omega) (by decide) (by decide), Sz.divInt (bd7 c0 (by omega)) (bd7 (by omega) s2) (by omega) (by decide) (by decide), by decide, ?_⟩
        refine ⟨?_, hk _ ⟨some (.fz (.int v)), some (.fz (qD (Rat.divInt (cfv n ws f v) S))), ?_⟩⟩
        · rw [List.length_map, List.length_append, dues_len, List.length_map]
          refine small1000 ?_
          have : done.length * r.toNat ≤ 29 * 6 := Nat.mul_le_mul (by omega) (by omega)
          omega
        · simp only [share_mul, List.map_append, List.map_cons, List.map_nil, List.append_assoc, dueE]
    · obtain ⟨y7, y8, rfl⟩ := hI
      refine hk _ ⟨some (.fz (rowI f)), y7, y8, ?_⟩
      unfold duesI
      rw [List.flatMap_append]
      simp
  · obtain ⟨y6, y7, y8, rfl⟩ := hI
    simp only [true_and, wpSs, wpS, wpE, wpX, wpO, wpC, wpI, ent, kt0, bindT, bindTs, tgsLen, wipeR, constD, owL, List.map_cons, List.map_nil, List.length_cons, List.length_nil, List.replicate, List.cons_append, List.nil_append, Nat.reduceSub, Nat.reduceAdd, List.getElem?_cons_zero, List.getElem?_cons_succ, List.getElem?_nil, List.set_cons_zero, List.set_cons_succ, opF, cmpF, Bi.fd, Option.map_some, if_true, if_false, Bool.true_eq_false, Bool.false_eq_true, reduceIte, Bool.not_true, Bool.not_false, w_some, w_none, w_fz0, w_fz1, w_t0, w_t1, w_t2, w_t3, w_t4, w_add, w_addL, w_addT, w_sub, w_subB, w_mul, w_mulL, w_mulT, w_mod, w_div, w_lt, w_le, w_gt, w_ge, w_is, w_isnt, w_n0, w_n1, w_n2, w_n3, w_n4, w_neg, w_atL, w_atT, w_lenL, w_lenT, w_tupL, w_tupT, w_lisL, w_lisT, w_abs, w_int, w_intB, w_gcd, w_min, w_max, w_seqL, w_seqT, w_augA, w_augS, w_augM, w_intQ, w_lstQ, w_rng1, w_rng2, w_zipL, w_zipT, w_enum]
    exact hP
/-! ### distances -/
def lessQ (a b : Rat) : Rat := a - (if a ≤ b then a else b)
def φ_distance : Phi := fun as P _ => ∃ (l l2 : List Rat), as = [.fz (.tuple (l.map qD)), .fz (.tuple (l2.map qD))] ∧ (∀ p ∈ l.zip l2, Sz 40 p.1 ∧ Sz 40 p.2) ∧ Sums 200 ((l.zip l2).map fun p => lessQ p.1 p.2) ∧ P (qD (qsum ((l.zip l2).map fun p => lessQ p.1 p.2)))
theorem zipD_map (l l2 : List Rat) : zipD (l.map qD) (l2.map qD) = (l.zip l2).map fun p => PyData.tuple [qD p.1, qD p.2] := by
  unfold zipD
  rw [List.zipWith_map, List.zip_eq_zipWith, List.map_zipWith]
theorem imp_distance {Γ : Gam} (e0 : Γ.gl.lookup ("NOTHING" : Str) = some (qD 0)) (e1 : Γ.Φ "minus" = φ_minus) (e2 : Γ.Φ "lesser" = φ_lesser) (e3 : Γ.Φ "plus" = φ_plus) (as : List Sl) (P : D → Prop) (PE : Str → Prop) (h : φ_distance as P PE) : spW Γ d_distance as P PE := by
  obtain ⟨l, l2, rfl, hz, hs, hP⟩ := h
  refine ⟨rfl, ?_⟩
  simp only [d_distance, true_and, wpSs, wpS, wpE, wpX, wpO, wpC, wpI, ent, kt0, bindT, bindTs, tgsLen, wipeR, constD, owL, List.map_cons, List.map_nil, List.length_cons, List.length_nil, List.replicate, List.cons_append, List.nil_append, Nat.reduceSub, Nat.reduceAdd, List.getElem?_cons_zero, List.getElem?_cons_succ, List.getElem?_nil, List.set_cons_zero, List.set_cons_succ, opF, cmpF, Bi.fd, Option.map_some, if_true, if_false, Bool.true_eq_false, Bool.false_eq_true, reduceIte, Bool.not_true, Bool.not_false, w_some, w_none, w_fz0, w_fz1, w_t0, w_t1, w_t2, w_t3, w_t4, w_add, w_addL, w_addT, w_sub, w_subB, w_mul, w_mulL, w_mulT, w_mod, w_div, w_lt, w_le, w_gt, w_ge, w_is, w_isnt, w_n0, w_n1, w_n2, w_n3, w_n4, w_neg, w_atL, w_atT, w_lenL, w_lenT, w_tupL, w_tupT, w_lisL, w_lisT, w_abs, w_int, w_intB, w_gcd, w_min, w_max, w_seqL, w_seqT, w_augA, w_augS, w_augM, w_intQ, w_lstQ, w_rng1, w_rng2, w_zipL, w_zipT, w_enum, e0, e1, e2, e3, zipD_map]
  refine forW_inv (I := fun done ρ => ∃ y3 y4 y5, ρ = [some (.fz (.tuple (l.map qD))), some (.fz (.tuple (l2.map qD))), some (.fz (qD (qsum (done.map fun p => lessQ p.1 p.2)))), y3, y4, y5]) ⟨none, none, none, rfl⟩ (fun done p rest ρ kk el hI hk => ?_) (fun ρ hI => ?_)
  · obtain ⟨y3, y4, y5, rfl⟩ := hI
    have hp : p ∈ l.zip l2 := by rw [el]; simp
    obtain ⟨z1, z2⟩ := hz p hp
    have h1 : Sz 200 (qsum (done.map fun p => lessQ p.1 p.2)) := hs.su _ ((p :: rest).map fun p => lessQ p.1 p.2) (by rw [el, List.map_append])
    have h2 : Sz 200 (lessQ p.1 p.2) := hs.it _ (List.mem_map.mpr ⟨p, hp, rfl⟩)
    simp only [true_and, wpSs, wpS, wpE, wpX, wpO, wpC, wpI, ent, kt0, bindT, bindTs, tgsLen, wipeR, constD, owL, List.map_cons, List.map_nil, List.length_cons, List.length_nil, List.replicate, List.cons_append, List.nil_append, Nat.reduceSub, Nat.reduceAdd, List.getElem?_cons_zero, List.getElem?_cons_succ, List.getElem?_nil, List.set_cons_zero, List.set_cons_succ, opF, cmpF, Bi.fd, Option.map_some, if_true, if_false, Bool.true_eq_false, Bool.false_eq_true, reduceIte, Bool.not_true, Bool.not_false, w_some, w_none, w_fz0, w_fz1, w_t0, w_t1, w_t2, w_t3, w_t4, w_add, w_addL, w_addT, w_sub, w_subB, w_mul, w_mulL, w_mulT, w_mod, w_div, w_lt, w_le, w_gt, w_ge, w_is, w_isnt, w_n0, w_n1, w_n2, w_n3, w_n4, w_neg, w_atL, w_atT, w_lenL, w_lenT, w_tupL, w_tupT, w_lisL, w_lisT, w_abs, w_int, w_intB, w_gcd, w_min, w_max, w_seqL, w_seqT, w_augA, w_augS, w_augM, w_intQ, w_lstQ, w_rng1, w_rng2, w_zipL, w_zipT, w_enum]
    have z3 : Sz 40 (if p.1 ≤ p.2 then p.1 else p.2) := by split <;> assumption
    refine ⟨_, _, 40, 40, rfl, z1, z2, by decide, _, _, 40, 40, rfl, z1, z3, by decide, _, _, 200, 200, rfl, h1, h2, by decide, hk _ ⟨some (.fz (qD p.1)), some (.fz (qD p.2)), some (.fz (qD (lessQ p.1 p.2))), ?_⟩⟩
    rw [List.map_append, List.map_cons, List.map_nil, qsum_snoc]
    rfl
  · obtain ⟨y3, y4, y5, rfl⟩ := hI
    simp only [true_and, wpSs, wpS, wpE, wpX, wpO, wpC, wpI, ent, kt0, bindT, bindTs, tgsLen, wipeR, constD, owL, List.map_cons, List.map_nil, List.length_cons, List.length_nil, List.replicate, List.cons_append, List.nil_append, Nat.reduceSub, Nat.reduceAdd, List.getElem?_cons_zero, List.getElem?_cons_succ, List.getElem?_nil, List.set_cons_zero, List.set_cons_succ, opF, cmpF, Bi.fd, Option.map_some, if_true, if_false, Bool.true_eq_false, Bool.false_eq_true, reduceIte, Bool.not_true, Bool.not_false, w_some, w_none, w_fz0, w_fz1, w_t0, w_t1, w_t2, w_t3, w_t4, w_add, w_addL, w_addT, w_sub, w_subB, w_mul, w_mulL, w_mulT, w_mod, w_div, w_lt, w_le, w_gt, w_ge, w_is, w_isnt, w_n0, w_n1, w_n2, w_n3, w_n4, w_neg, w_atL, w_atT, w_lenL, w_lenT, w_tupL, w_tupT, w_lisL, w_lisT, w_abs, w_int, w_intB, w_gcd, w_min, w_max, w_seqL, w_seqT, w_augA, w_augS, w_augM, w_intQ, w_lstQ, w_rng1, w_rng2, w_zipL, w_zipT, w_enum]
    exact hP
end DL

set_option Elab.async false
set_option linter.all false
set_option maxRecDepth 100000
set_option maxHeartbeats 4000000
namespace DL
open PySem PySem.Spec PyProof.Rows L2
def posI (r S : Int) (cs : List Int) : Int := (cs.map fun c => max 0 (c * r - S)).sum
def sqI (ws : List Int) : Int := (ws.map fun w => w * w).sum
theorem lessQ_div {c S r : Int} {N : Nat} (hS : 0 < S) (hr : 0 < r) (hN : 0 < N) : lessQ (Rat.divInt c (S * N)) (Rat.divInt 1 (N * r)) = Rat.divInt (max 0 (c * r - S)) (S * N * r) := by
  have hN' : (0 : Int) < N := by omega
  have hSN : 0 < S * N := Int.mul_pos hS hN'
  have hNr : 0 < N * r := Int.mul_pos hN' hr
  unfold lessQ
  have key : Rat.divInt c (S * N) ≤ Rat.divInt 1 (N * r) ↔ c * r ≤ S := by
    rw [divInt_le_iff hSN hNr, Int.one_mul, show c * ((N : Int) * r) = N * (c * r) by rw [← Int.mul_assoc, Int.mul_comm c, Int.mul_assoc], Int.mul_comm S]
    exact ⟨fun h => Int.le_of_mul_le_mul_left h hN', fun h => Int.mul_le_mul_of_nonneg_left h (by omega)⟩
  by_cases h : c * r ≤ S
  · rw [if_pos (key.mpr h), show max 0 (c * r - S) = 0 by omega, Rat.zero_divInt, Rat.sub_self]
  · rw [if_neg (fun z => h (key.mp z)), show max 0 (c * r - S) = c * r - S by omega, Rat.divInt_sub_divInt _ _ (by omega) (by omega)]
    rw [show c * ((N : Int) * r) - 1 * (S * N) = N * (c * r - S) by
      rw [Int.mul_sub, Int.one_mul, Int.mul_comm S, ← Int.mul_assoc, ← Int.mul_assoc, Int.mul_comm c]]
    rw [show S * (N : Int) * (N * r) = N * (S * N * r) by
      rw [← Int.mul_assoc, Int.mul_comm (S * N) N, ← Int.mul_assoc, Int.mul_assoc, Int.mul_assoc, Int.mul_assoc]]
    exact Rat.divInt_mul_left (by omega)
theorem dues_pos {r : Int} {n : Nat} {ws : List Int} {S : Int} (h : RowW n ws S) (fs : List (List Int)) : ∀ c ∈ duesI r n ws fs, 0 ≤ c ∧ c ≤ S := fun c hc => by
  unfold duesI at hc
  rw [List.mem_flatMap] at hc
  obtain ⟨f, _, hc⟩ := hc
  obtain ⟨v, _, rfl⟩ := List.mem_map.mp hc
  exact cfv_bd h f v
theorem zip_rep {α β : Type} (b : β) : ∀ l : List α, l.zip (List.replicate l.length b) = l.map fun a => (a, b)
  | [] => rfl
  | a :: l => by rw [List.length_cons, List.replicate_succ, List.zip_cons_cons, zip_rep b l]; rfl
theorem rep_one (x : D) (k : Nat) : repD (k : Int) [x] = List.replicate k x := by
  unfold repD
  rw [Int.toNat_natCast]
  induction k with
  | zero => rfl
  | succ k ih => rw [List.replicate_succ, List.flatten_cons, ih, List.replicate_succ]; rfl
theorem posI_bd {r S : Int} {n : Nat} {fs : List (List Int)} {ws : List Int} (hF : Fam r n fs) (hR : RowW n ws S) : 0 ≤ posI r S (duesI r n ws fs) ∧ posI r S (duesI r n ws fs) ≤ 762 * (fs.length * r.toNat : Nat) := by
  have r1 := hF.r1
  have r6 := hF.r6
  have s1 := hR.s1
  have s2 := hR.s2
  constructor
  · exact sum_nonneg fun w hw => by
      obtain ⟨c, _, rfl⟩ := List.mem_map.mp hw
      omega
  · have := sum_le_mul (ws := (duesI r n ws fs).map fun c => max 0 (c * r - S)) (B := 762) fun w hw => by
      obtain ⟨c, hc, rfl⟩ := List.mem_map.mp hw
      obtain ⟨c0, c1⟩ := dues_pos hR fs c hc
      have : c * r ≤ 127 * 6 := Int.mul_le_mul (by omega) (by omega) (by omega) (by omega)
      omega
    rw [List.length_map, dues_len] at this
    exact this
def φ_from_even : Phi := fun as P _ => ∃ (r : Int) (n : Nat) (fs : List (List Int)) (ws : List Int) (S : Int), as = [.fz (famD r fs), .fz (rowD ws S)] ∧ Fam r n fs ∧ RowW n ws S ∧ P (qD (Rat.divInt (posI r S (duesI r n ws fs)) (S * fs.length * r)))
theorem snr_bd {r S : Int} {n : Nat} {fs : List (List Int)} {ws : List Int} (hF : Fam r n fs) (hR : RowW n ws S) : 0 < S * fs.length * r ∧ S * fs.length * r ≤ 127 * 30 * 6 := by
  have r1 := hF.r1
  have r6 := hF.r6
  have f1 := hF.f1
  have f30 := hF.f30
  have s1 := hR.s1
  have s2 := hR.s2
  have h1 : S * (fs.length : Int) ≤ 127 * 30 := Int.mul_le_mul s2 (by omega) (by omega) (by omega)
  have h2 : 0 < S * (fs.length : Int) := Int.mul_pos (by omega) (by omega)
  exact ⟨Int.mul_pos h2 (by omega), Int.mul_le_mul h1 r6 (by omega) (by omega)⟩
theorem bd20 {i : Int} (h : 0 ≤ i) (h2 : i ≤ 1000000) : Bd 20 i := by
  show i.natAbs < 2 ^ 20
  omega
theorem imp_from_even {Γ : Gam} (e1 : Γ.Φ "lowest" = φ_lowest) (e2 : Γ.Φ "drawn" = φ_drawn) (e3 : Γ.Φ "distance" = φ_distance) (as : List Sl) (P : D → Prop) (PE : Str → Prop) (h : φ_from_even as P PE) : spW Γ d_from_even as P PE := by
  obtain ⟨r, n, fs, ws, S, rfl, hF, hR, hP⟩ := h
  refine ⟨rfl, ?_⟩
  have r1 := hF.r1
  have r6 := hF.r6
  have f1 := hF.f1
  have f30 := hF.f30
  have s1 := hR.s1
  have s2 := hR.s2
  simp only [d_from_even, true_and, wpSs, wpS, wpE, wpX, wpO, wpC, wpI, ent, kt0, bindT, bindTs, tgsLen, wipeR, constD, owL, List.map_cons, List.map_nil, List.length_cons, List.length_nil, List.replicate, List.cons_append, List.nil_append, Nat.reduceSub, Nat.reduceAdd, List.getElem?_cons_zero, List.getElem?_cons_succ, List.getElem?_nil, List.set_cons_zero, List.set_cons_succ, opF, cmpF, Bi.fd, Option.map_some, if_true, if_false, Bool.true_eq_false, Bool.false_eq_true, reduceIte, Bool.not_true, Bool.not_false, w_some, w_none, w_fz0, w_fz1, w_t0, w_t1, w_t2, w_t3, w_t4, w_add, w_addL, w_addT, w_sub, w_subB, w_mul, w_mulL, w_mulT, w_mod, w_div, w_lt, w_le, w_gt, w_ge, w_is, w_isnt, w_n0, w_n1, w_n2, w_n3, w_n4, w_neg, w_atL, w_atT, w_lenL, w_lenT, w_tupL, w_tupT, w_lisL, w_lisT, w_abs, w_int, w_intB, w_gcd, w_min, w_max, w_seqL, w_seqT, w_augA, w_augS, w_augM, w_intQ, w_lstQ, w_rng1, w_rng2, w_zipL, w_zipT, w_enum, e1, e2, e3, List.length_map, dues_len]
  refine ⟨r, n, fs, ws, S, rfl, hF, hR, ?_⟩
  have L1 : 1 ≤ fs.length * r.toNat := Nat.mul_pos (by omega) (by omega)
  have L2 : fs.length * r.toNat ≤ 30 * 6 := Nat.mul_le_mul f30 (by omega)
  simp only [true_and, wpSs, wpS, wpE, wpX, wpO, wpC, wpI, ent, kt0, bindT, bindTs, tgsLen, wipeR, constD, owL, List.map_cons, List.map_nil, List.length_cons, List.length_nil, List.replicate, List.cons_append, List.nil_append, Nat.reduceSub, Nat.reduceAdd, List.getElem?_cons_zero, List.getElem?_cons_succ, List.getElem?_nil, List.set_cons_zero, List.set_cons_succ, opF, cmpF, Bi.fd, Option.map_some, if_true, if_false, Bool.true_eq_false, Bool.false_eq_true, reduceIte, Bool.not_true, Bool.not_false, w_some, w_none, w_fz0, w_fz1, w_t0, w_t1, w_t2, w_t3, w_t4, w_add, w_addL, w_addT, w_sub, w_subB, w_mul, w_mulL, w_mulT, w_mod, w_div, w_lt, w_le, w_gt, w_ge, w_is, w_isnt, w_n0, w_n1, w_n2, w_n3, w_n4, w_neg, w_atL, w_atT, w_lenL, w_lenT, w_tupL, w_tupT, w_lisL, w_lisT, w_abs, w_int, w_intB, w_gcd, w_min, w_max, w_seqL, w_seqT, w_augA, w_augS, w_augM, w_intQ, w_lstQ, w_rng1, w_rng2, w_zipL, w_zipT, w_enum, List.length_map, dues_len]
  generalize hL : fs.length * r.toNat = L at *
  have eL : (fs.length : Int) * r = L := by
    rw [← hL, Int.natCast_mul]
    congr 1
    omega
  refine ⟨1, L, 20, rfl, by omega, bd20 (by omega) (by omega), by decide, by omega, by omega, ?_, ?_⟩
  · rw [Int.toNat_natCast, Nat.one_mul]
    exact small (by omega)
  · have e : (l : List Int) → (l.map fun c => Rat.divInt c (S * fs.length)).zip (List.replicate l.length (Rat.divInt 1 (L : Int))) = l.map fun c => (Rat.divInt c (S * fs.length), Rat.divInt 1 (L : Int)) := fun l => by
      have := zip_rep (Rat.divInt 1 (L : Int)) (l.map fun c => Rat.divInt c (S * fs.length))
      rw [List.length_map] at this
      rw [this, List.map_map]
      rfl
    have dl := dues_len r n ws fs
    rw [hL] at dl
    have e5 := e (duesI r n ws fs)
    rw [dl] at e5
    obtain ⟨p0, p1⟩ := posI_bd hF hR
    rw [hL] at p1
    obtain ⟨q0, q1⟩ := snr_bd hF hR
    have e6 : ((duesI r n ws fs).map fun c => (Rat.divInt c (S * fs.length), Rat.divInt 1 (L : Int))).map (fun p => lessQ p.1 p.2) = ((duesI r n ws fs).map fun c => max 0 (c * r - S)).map fun x => Rat.divInt x (S * fs.length * r) := by
      rw [List.map_map, List.map_map]
      refine List.map_congr_left fun c _ => ?_
      show lessQ (Rat.divInt c (S * fs.length)) (Rat.divInt 1 (L : Int)) = _
      rw [← eL, lessQ_div (by omega) (by omega) (by omega)]
      rfl
    refine ⟨(duesI r n ws fs).map fun c => Rat.divInt c (S * fs.length), List.replicate L (Rat.divInt 1 (L : Int)), ?_, fun p hp => ?_, ?_, ?_⟩
    · rw [rep_one, List.map_map, List.map_replicate]
      rfl
    · rw [e5] at hp
      obtain ⟨c, hc, rfl⟩ := List.mem_map.mp hp
      obtain ⟨c0, c1⟩ := dues_pos hR fs c hc
      have h1 : S * (fs.length : Int) ≤ 127 * 30 := Int.mul_le_mul s2 (by omega) (by omega) (by omega)
      have h2 : 0 < S * (fs.length : Int) := Int.mul_pos (by omega) (by omega)
      exact ⟨Sz.divInt (bd20 c0 (by omega)) (bd20 (by omega) (by omega)) (by omega) (by decide) (by decide), Sz.divInt (bd20 (by omega) (by omega)) (bd20 (i := (L : Int)) (by omega) (by omega)) (by omega) (by decide) (by decide)⟩
    · rw [e5, e6]
      have := sums_div (n := 20) q0 (ws := (duesI r n ws fs).map fun c => max 0 (c * r - S)) (fun w hw => by
        obtain ⟨c, _, rfl⟩ := List.mem_map.mp hw
        omega) (bd20 p0 (by unfold posI at p1; omega)) (bd20 (by omega) (by omega))
      exact ⟨fun x hx => (this.it x hx).mono (by decide), fun d e he => (this.su d e he).mono (by decide)⟩
    · rw [e5, e6, qsum_div _ (by omega)]
      exact hP
def φ_meeting_of : Phi := fun as P _ => ∃ (n : Nat) (ws : List Int) (S : Int), as = [.fz (rowD ws S)] ∧ n ≤ 30 ∧ RowW n ws S ∧ P (qD (Rat.divInt (sqI ws) (S * S)))
theorem sq_le {ws : List Int} (h : ∀ w ∈ ws, 0 ≤ w) : 0 ≤ sqI ws ∧ sqI ws ≤ ws.sum * ws.sum := by
  induction ws with
  | nil => exact ⟨by decide, by decide⟩
  | cons w ws ih =>
    have h1 := h w List.mem_cons_self
    have h2 := sum_nonneg (ws := ws) fun x hx => h x (List.mem_cons_of_mem _ hx)
    obtain ⟨i1, i2⟩ := ih fun x hx => h x (List.mem_cons_of_mem _ hx)
    unfold sqI at i1 i2 ⊢
    rw [List.map_cons, List.sum_cons, List.sum_cons]
    have h3 : 0 ≤ w * w := Int.mul_nonneg h1 h1
    have h4 : 0 ≤ w * ws.sum := Int.mul_nonneg h1 h2
    constructor
    · omega
    · rw [Int.add_mul, Int.mul_add, Int.mul_add, Int.mul_comm ws.sum w]
      omega
/-- [p * p for p in row], summed -/
theorem sq_args {n : Nat} {ws : List Int} {S : Int} (h : RowW n ws S) (Q : D → Prop) (hQ : Q (qD (Rat.divInt (sqI ws) (S * S)))) (PE : Str → Prop) : φ_total [.fz (.list (ws.map fun w => qD (Rat.divInt w S * Rat.divInt w S)))] Q PE := by
  have s1 := h.s1
  have s2 := h.s2
  have hS : 0 < S * S := Int.mul_pos (by omega) (by omega)
  have hS2 : S * S ≤ 127 * 127 := Int.mul_le_mul s2 s2 (by omega) (by omega)
  obtain ⟨q0, q1⟩ := sq_le h.pos
  rw [h.sum] at q1
  refine ⟨true, ((ws.map fun w => w * w).map fun x => Rat.divInt x (S * S)), 20, ?_, sums_div hS (fun w hw => ?_) (bd20 q0 (by unfold sqI at q1; omega)) (bd20 (by omega) (by omega)), by decide, ?_⟩
  · show _ = [Sl.fz (PyData.list _)]
    rw [List.map_map, List.map_map]
    congr 3
    refine List.map_congr_left fun w _ => ?_
    show _ = qD (Rat.divInt (w * w) (S * S))
    rw [Rat.divInt_mul_divInt]
  · obtain ⟨x, hx, rfl⟩ := List.mem_map.mp hw
    exact Int.mul_nonneg (h.pos x hx) (h.pos x hx)
  · rw [qsum_div _ (by omega)]
    exact hQ
theorem row_sz {n : Nat} {ws : List Int} {S : Int} (h : RowW n ws S) {w : Int} (hw : w ∈ ws) : Sz 7 (Rat.divInt w S) := by
  have s1 := h.s1
  have s2 := h.s2
  have h1 := h.pos w hw
  have h2 := le_sum h.pos hw
  rw [h.sum] at h2
  exact Sz.divInt (bd7 h1 (by omega)) (bd7 (by omega) s2) (by omega) (Nat.le_refl _) (Nat.le_refl _)
theorem imp_meeting_of {Γ : Gam} (e1 : Γ.Φ "times" = φ_times) (e2 : Γ.Φ "total_of" = φ_total_of) (as : List Sl) (P : D → Prop) (PE : Str → Prop) (h : φ_meeting_of as P PE) : spW Γ d_meeting_of as P PE := by
  obtain ⟨n, ws, S, rfl, hn, hR, hP⟩ := h
  refine ⟨rfl, ?_⟩
  simp only [d_meeting_of, rowD, true_and, wpSs, wpS, wpE, wpX, wpO, wpC, wpI, ent, kt0, bindT, bindTs, tgsLen, wipeR, constD, owL, List.map_cons, List.map_nil, List.length_cons, List.length_nil, List.replicate, List.cons_append, List.nil_append, Nat.reduceSub, Nat.reduceAdd, List.getElem?_cons_zero, List.getElem?_cons_succ, List.getElem?_nil, List.set_cons_zero, List.set_cons_succ, opF, cmpF, Bi.fd, Option.map_some, if_true, if_false, Bool.true_eq_false, Bool.false_eq_true, reduceIte, Bool.not_true, Bool.not_false, w_some, w_none, w_fz0, w_fz1, w_t0, w_t1, w_t2, w_t3, w_t4, w_add, w_addL, w_addT, w_sub, w_subB, w_mul, w_mulL, w_mulT, w_mod, w_div, w_lt, w_le, w_gt, w_ge, w_is, w_isnt, w_n0, w_n1, w_n2, w_n3, w_n4, w_neg, w_atL, w_atT, w_lenL, w_lenT, w_tupL, w_tupT, w_lisL, w_lisT, w_abs, w_int, w_intB, w_gcd, w_min, w_max, w_seqL, w_seqT, w_augA, w_augS, w_augM, w_intQ, w_lstQ, w_rng1, w_rng2, w_zipL, w_zipT, w_enum, e1, e2]
  refine ⟨by rw [List.length_map, hR.len]; exact small (by omega), ?_⟩
  refine foldW_map (fun w => qD (Rat.divInt w S * Rat.divInt w S)) (fun w acc kk hw hk => ?_) ?_
  · have z := row_sz hR hw
    exact ⟨_, _, 7, 7, rfl, z, z, by decide, hk⟩
  · exact sq_args hR _ hP _
/-! ### the families of lines -/
def linesF (p : Nat) : List (List Int) := (List.range p).flatMap fun (a : Nat) => (List.range p).map fun (b : Nat) => (List.range p).map fun (k : Nat) => ((a : Int) * (k : Int) + (b : Int)).fmod p
def isP (p : Int) : Bool := decide (p = 2) || (decide (p = 3) || decide (p = 5))
def φ_lines_family : Phi := fun as P PE => ∃ p : Nat, as = [.fz (.int p)] ∧ 1 ≤ p ∧ p ≤ 6 ∧ (isP p = true → P (famD p (linesF p))) ∧ (isP p = false → PE "NotAllowed")
theorem imp_lines_family {Γ : Gam} (e1 : Γ.Φ "is_integer" = φ_is_integer) (as : List Sl) (P : D → Prop) (PE : Str → Prop) (h : φ_lines_family as P PE) : spW Γ d_lines_family as P PE := by
  obtain ⟨p, rfl, p1, p6, h1, h2⟩ := h
  refine ⟨rfl, ?_⟩
  simp only [d_lines_family, true_and, wpSs, wpS, wpE, wpX, wpO, wpC, wpI, ent, kt0, bindT, bindTs, tgsLen, wipeR, constD, owL, List.map_cons, List.map_nil, List.length_cons, List.length_nil, List.replicate, List.cons_append, List.nil_append, Nat.reduceSub, Nat.reduceAdd, List.getElem?_cons_zero, List.getElem?_cons_succ, List.getElem?_nil, List.set_cons_zero, List.set_cons_succ, opF, cmpF, Bi.fd, Option.map_some, if_true, if_false, Bool.true_eq_false, Bool.false_eq_true, reduceIte, Bool.not_true, Bool.not_false, w_some, w_none, w_fz0, w_fz1, w_t0, w_t1, w_t2, w_t3, w_t4, w_add, w_addL, w_addT, w_sub, w_subB, w_mul, w_mulL, w_mulT, w_mod, w_div, w_lt, w_le, w_gt, w_ge, w_is, w_isnt, w_n0, w_n1, w_n2, w_n3, w_n4, w_neg, w_atL, w_atT, w_lenL, w_lenT, w_tupL, w_tupT, w_lisL, w_lisT, w_abs, w_int, w_intB, w_gcd, w_min, w_max, w_seqL, w_seqT, w_augA, w_augS, w_augM, w_intQ, w_lstQ, w_rng1, w_rng2, w_zipL, w_zipT, w_enum, e1]
  refine ⟨.int p, some 2, some 5, rfl, ?_⟩
  have bad : isP p = false → PE "NotAllowed" := h2
  have good : isP p = true → rngOk (p : Int) ∧ foldW (fun d acc k => bindT (.n 2) d (wipeR [some (.fz (.int p)), none, none, none, none] [2, 3]) fun ρ1 => wpC Γ .no ρ1 (fun c => if c = true then wpI Γ (.rng (.cons (.v 0) .nil)) ρ1 (fun es => foldW (fun e acc k => bindT (.n 3) e (wipeR ρ1 (slotsT (.n 3))) fun ρ2 => wpC Γ .no ρ2 (fun c => if c = true then wpE Γ (.bi .tuple (.cons (.comp [("k", 4)] (.bin .Mod (.bin .Add (.bin .Mult (.v 2) (.v 4)) (.v 3)) (.v 0)) (.n 4) (.rng (.cons (.v 0) .nil)) .no) .nil)) ρ2 (fun y => acc.length < sizeLine ∧ k (acc ++ [y])) nE else k acc) nE) es acc k) nE else k acc) nE) (rangeD 0 (p : Int).toNat) [] fun acc => P (.tuple [.int p, .tuple acc]) := by
    intro hp
    refine ⟨rngOk_small (by omega) (by omega), ?_⟩
    rw [Int.toNat_natCast, rangeD0]
    refine foldW_flat (fun (a : Nat) => ((List.range p).map fun (b : Nat) => (List.range p).map fun (k : Nat) => ((a : Int) * (k : Int) + (b : Int)).fmod p).map rowI) 6 (fun x _ => by simp; omega) (fun a acc kk ha hacc hk => ?_) ?_
    · rw [List.mem_range] at ha
      rw [List.length_range] at hacc
      simp only [slotsT, true_and, wpSs, wpS, wpE, wpX, wpO, wpC, wpI, ent, kt0, bindT, bindTs, tgsLen, wipeR, constD, owL, List.map_cons, List.map_nil, List.length_cons, List.length_nil, List.replicate, List.cons_append, List.nil_append, Nat.reduceSub, Nat.reduceAdd, List.getElem?_cons_zero, List.getElem?_cons_succ, List.getElem?_nil, List.set_cons_zero, List.set_cons_succ, opF, cmpF, Bi.fd, Option.map_some, if_true, if_false, Bool.true_eq_false, Bool.false_eq_true, reduceIte, Bool.not_true, Bool.not_false, w_some, w_none, w_fz0, w_fz1, w_t0, w_t1, w_t2, w_t3, w_t4, w_add, w_addL, w_addT, w_sub, w_subB, w_mul, w_mulL, w_mulT, w_mod, w_div, w_lt, w_le, w_gt, w_ge, w_is, w_isnt, w_n0, w_n1, w_n2, w_n3, w_n4, w_neg, w_atL, w_atT, w_lenL, w_lenT, w_tupL, w_tupT, w_lisL, w_lisT, w_abs, w_int, w_intB, w_gcd, w_min, w_max, w_seqL, w_seqT, w_augA, w_augS, w_augM, w_intQ, w_lstQ, w_rng1, w_rng2, w_zipL, w_zipT, w_enum]
      refine ⟨rngOk_small (by omega) (by omega), ?_⟩
      rw [Int.toNat_natCast, rangeD0]
      refine foldW_mapB (fun (b : Nat) => rowI ((List.range p).map fun (k : Nat) => ((a : Int) * (k : Int) + (b : Int)).fmod p)) 1000 (by rw [List.length_range]; have : (p - 1) * 6 ≤ 5 * 6 := Nat.mul_le_mul_right _ (by omega); omega) (fun b acc kk hb hacc hk => ?_) ?_
      · rw [List.mem_range] at hb
        refine ⟨rngOk_small (by omega) (by omega), ?_⟩
        refine ⟨by rw [List.length_map, List.length_range]; exact small (by omega), ?_⟩
        refine foldW_map (fun (k : Nat) => PyData.int (((a : Int) * k + b).fmod p)) (fun k acc kk hk2 hk => ?_) ?_
        · rw [List.mem_range] at hk2
          refine ⟨(bd5 (by omega) (by omega) : Bd 5 (a : Int)).mulOk (bd5 (by omega) (by omega) : Bd 5 (k : Int)) (by decide), by omega, hk⟩
        · refine ⟨small1000 (by omega), ?_⟩
          unfold rowI at hk
          rw [List.map_map] at hk
          exact hk
      · rw [List.map_map] at hk
        exact hk
    · have := h1 hp
      unfold famD linesF at this
      rw [List.map_flatMap] at this
      exact this
  have hI : isInt (.int (p : Int)) (some 2) (some 5) = (decide ((2 : Int) ≤ p) && decide ((p : Int) ≤ 5)) := rfl
  rw [hI]
  by_cases c : 2 ≤ (p : Int) ∧ (p : Int) ≤ 5
  · rw [decide_eq_true c.1, decide_eq_true c.2]
    simp only [true_and, wpSs, wpS, wpE, wpX, wpO, wpC, wpI, ent, kt0, bindT, bindTs, tgsLen, wipeR, constD, owL, List.map_cons, List.map_nil, List.length_cons, List.length_nil, List.replicate, List.cons_append, List.nil_append, Nat.reduceSub, Nat.reduceAdd, List.getElem?_cons_zero, List.getElem?_cons_succ, List.getElem?_nil, List.set_cons_zero, List.set_cons_succ, opF, cmpF, Bi.fd, Option.map_some, if_true, if_false, Bool.true_eq_false, Bool.false_eq_true, reduceIte, Bool.not_true, Bool.not_false, w_some, w_none, w_fz0, w_fz1, w_t0, w_t1, w_t2, w_t3, w_t4, w_add, w_addL, w_addT, w_sub, w_subB, w_mul, w_mulL, w_mulT, w_mod, w_div, w_lt, w_le, w_gt, w_ge, w_is, w_isnt, w_n0, w_n1, w_n2, w_n3, w_n4, w_neg, w_atL, w_atT, w_lenL, w_lenT, w_tupL, w_tupT, w_lisL, w_lisT, w_abs, w_int, w_intB, w_gcd, w_min, w_max, w_seqL, w_seqT, w_augA, w_augS, w_augM, w_intQ, w_lstQ, w_rng1, w_rng2, w_zipL, w_zipT, w_enum, Bool.and_self]
    refine dEqI ?_
    by_cases c4 : (p : Int) = 4
    · rw [decide_eq_true c4]
      simp only [true_and, wpSs, wpS, wpE, wpX, wpO, wpC, wpI, ent, kt0, bindT, bindTs, tgsLen, wipeR, constD, owL, List.map_cons, List.map_nil, List.length_cons, List.length_nil, List.replicate, List.cons_append, List.nil_append, Nat.reduceSub, Nat.reduceAdd, List.getElem?_cons_zero, List.getElem?_cons_succ, List.getElem?_nil, List.set_cons_zero, List.set_cons_succ, opF, cmpF, Bi.fd, Option.map_some, if_true, if_false, Bool.true_eq_false, Bool.false_eq_true, reduceIte, Bool.not_true, Bool.not_false, w_some, w_none, w_fz0, w_fz1, w_t0, w_t1, w_t2, w_t3, w_t4, w_add, w_addL, w_addT, w_sub, w_subB, w_mul, w_mulL, w_mulT, w_mod, w_div, w_lt, w_le, w_gt, w_ge, w_is, w_isnt, w_n0, w_n1, w_n2, w_n3, w_n4, w_neg, w_atL, w_atT, w_lenL, w_lenT, w_tupL, w_tupT, w_lisL, w_lisT, w_abs, w_int, w_intB, w_gcd, w_min, w_max, w_seqL, w_seqT, w_augA, w_augS, w_augM, w_intQ, w_lstQ, w_rng1, w_rng2, w_zipL, w_zipT, w_enum]
      exact bad (by unfold isP; rw [decide_eq_false (by omega), decide_eq_false (by omega), decide_eq_false (by omega)]; rfl)
    · rw [decide_eq_false c4]
      simp only [true_and, wpSs, wpS, wpE, wpX, wpO, wpC, wpI, ent, kt0, bindT, bindTs, tgsLen, wipeR, constD, owL, List.map_cons, List.map_nil, List.length_cons, List.length_nil, List.replicate, List.cons_append, List.nil_append, Nat.reduceSub, Nat.reduceAdd, List.getElem?_cons_zero, List.getElem?_cons_succ, List.getElem?_nil, List.set_cons_zero, List.set_cons_succ, opF, cmpF, Bi.fd, Option.map_some, if_true, if_false, Bool.true_eq_false, Bool.false_eq_true, reduceIte, Bool.not_true, Bool.not_false, w_some, w_none, w_fz0, w_fz1, w_t0, w_t1, w_t2, w_t3, w_t4, w_add, w_addL, w_addT, w_sub, w_subB, w_mul, w_mulL, w_mulT, w_mod, w_div, w_lt, w_le, w_gt, w_ge, w_is, w_isnt, w_n0, w_n1, w_n2, w_n3, w_n4, w_neg, w_atL, w_atT, w_lenL, w_lenT, w_tupL, w_tupT, w_lisL, w_lisT, w_abs, w_int, w_intB, w_gcd, w_min, w_max, w_seqL, w_seqT, w_augA, w_augS, w_augM, w_intQ, w_lstQ, w_rng1, w_rng2, w_zipL, w_zipT, w_enum]
      refine good ?_
      unfold isP
      have : (p : Int) = 2 ∨ (p : Int) = 3 ∨ (p : Int) = 5 := by omega
      rcases this with h | h | h
      · rw [decide_eq_true h]; rfl
      · rw [decide_eq_true h]; simp
      · rw [decide_eq_true h]; simp
  · have e : (decide ((2 : Int) ≤ p) && decide ((p : Int) ≤ 5)) = false := by
      rw [Bool.eq_false_iff]
      intro z
      simp only [Bool.and_eq_true, decide_eq_true_eq] at z
      exact c z
    rw [e]
    simp only [true_and, wpSs, wpS, wpE, wpX, wpO, wpC, wpI, ent, kt0, bindT, bindTs, tgsLen, wipeR, constD, owL, List.map_cons, List.map_nil, List.length_cons, List.length_nil, List.replicate, List.cons_append, List.nil_append, Nat.reduceSub, Nat.reduceAdd, List.getElem?_cons_zero, List.getElem?_cons_succ, List.getElem?_nil, List.set_cons_zero, List.set_cons_succ, opF, cmpF, Bi.fd, Option.map_some, if_true, if_false, Bool.true_eq_false, Bool.false_eq_true, reduceIte, Bool.not_true, Bool.not_false, w_some, w_none, w_fz0, w_fz1, w_t0, w_t1, w_t2, w_t3, w_t4, w_add, w_addL, w_addT, w_sub, w_subB, w_mul, w_mulL, w_mulT, w_mod, w_div, w_lt, w_le, w_gt, w_ge, w_is, w_isnt, w_n0, w_n1, w_n2, w_n3, w_n4, w_neg, w_atL, w_atT, w_lenL, w_lenT, w_tupL, w_tupT, w_lisL, w_lisT, w_abs, w_int, w_intB, w_gcd, w_min, w_max, w_seqL, w_seqT, w_augA, w_augS, w_augM, w_intQ, w_lstQ, w_rng1, w_rng2, w_zipL, w_zipT, w_enum]
    exact bad (by unfold isP; rw [decide_eq_false (by omega), decide_eq_false (by omega), decide_eq_false (by omega)]; rfl)
def φ__law_lines : Phi := fun as P _ => ∃ p : Nat, as = [.fz (.int p)] ∧ 1 ≤ p ∧ p ≤ 6 ∧ P (if isP p = true then famD p (linesF p) else .none)
theorem imp__law_lines {Γ : Gam} (e1 : Γ.Φ "lines_family" = φ_lines_family) (hx : ("NotAllowed" : Str) ∈ Γ.exs) (as : List Sl) (P : D → Prop) (PE : Str → Prop) (h : φ__law_lines as P PE) : spW Γ d__law_lines as P PE := by
  obtain ⟨p, rfl, p1, p6, hP⟩ := h
  refine ⟨rfl, ?_⟩
  simp only [d__law_lines, true_and, wpSs, wpS, wpE, wpX, wpO, wpC, wpI, ent, kt0, bindT, bindTs, tgsLen, wipeR, constD, owL, List.map_cons, List.map_nil, List.length_cons, List.length_nil, List.replicate, List.cons_append, List.nil_append, Nat.reduceSub, Nat.reduceAdd, List.getElem?_cons_zero, List.getElem?_cons_succ, List.getElem?_nil, List.set_cons_zero, List.set_cons_succ, opF, cmpF, Bi.fd, Option.map_some, if_true, if_false, Bool.true_eq_false, Bool.false_eq_true, reduceIte, Bool.not_true, Bool.not_false, w_some, w_none, w_fz0, w_fz1, w_t0, w_t1, w_t2, w_t3, w_t4, w_add, w_addL, w_addT, w_sub, w_subB, w_mul, w_mulL, w_mulT, w_mod, w_div, w_lt, w_le, w_gt, w_ge, w_is, w_isnt, w_n0, w_n1, w_n2, w_n3, w_n4, w_neg, w_atL, w_atT, w_lenL, w_lenT, w_tupL, w_tupT, w_lisL, w_lisT, w_abs, w_int, w_intB, w_gcd, w_min, w_max, w_seqL, w_seqT, w_augA, w_augS, w_augM, w_intQ, w_lstQ, w_rng1, w_rng2, w_zipL, w_zipT, w_enum, e1]
  refine ⟨p, rfl, p1, p6, fun h => ?_, fun h => ⟨hx, ?_⟩⟩
  · rw [if_pos h] at hP
    exact hP
  · rw [if_neg (by rw [h]; decide)] at hP
    exact hP
end DL

set_option Elab.async false
set_option linter.all false
set_option maxRecDepth 100000
set_option maxHeartbeats 4000000
namespace DL
/-! ### sums of whole numbers -/
section
variable {α β : Type}
def sL (l : List α) (g : α → Int) : Int := (l.map g).sum
theorem sL_nil (g : α → Int) : sL [] g = 0 := rfl
theorem sL_cons (x : α) (l : List α) (g : α → Int) : sL (x :: l) g = g x + sL l g := by unfold sL; rw [List.map_cons, List.sum_cons]
theorem sL_add (l : List α) (g h : α → Int) : sL l (fun x => g x + h x) = sL l g + sL l h := by
  induction l with
  | nil => rfl
  | cons x l ih => rw [sL_cons, sL_cons, sL_cons, ih]; omega
theorem sL_mul (c : Int) (l : List α) (g : α → Int) : sL l (fun x => c * g x) = c * sL l g := by
  induction l with
  | nil => rw [sL_nil, sL_nil, Int.mul_zero]
  | cons x l ih => rw [sL_cons, sL_cons, ih, Int.mul_add]
theorem sL_zero (l : List α) : sL l (fun _ => 0) = 0 := by
  induction l with
  | nil => rfl
  | cons x l ih => rw [sL_cons, ih]; rfl
theorem sL_const (c : Int) (l : List α) : sL l (fun _ => c) = c * l.length := by
  induction l with
  | nil => simp [sL]
  | cons x l ih => rw [sL_cons, ih, List.length_cons, Int.natCast_succ, Int.mul_add, Int.mul_one]; omega
theorem sL_congr {l : List α} {g h : α → Int} (e : ∀ x ∈ l, g x = h x) : sL l g = sL l h := by
  unfold sL
  rw [List.map_congr_left e]
theorem sL_le {l : List α} {g h : α → Int} (e : ∀ x ∈ l, g x ≤ h x) : sL l g ≤ sL l h := by
  induction l with
  | nil => exact Int.le_refl _
  | cons x l ih =>
    rw [sL_cons, sL_cons]
    have := e x List.mem_cons_self
    have := ih fun y hy => e y (List.mem_cons_of_mem _ hy)
    omega
theorem sL_swap (l : List α) (m : List β) (g : α → β → Int) : sL l (fun x => sL m fun y => g x y) = sL m fun y => sL l fun x => g x y := by
  induction l with
  | nil => simp only [sL_nil, sL_zero]
  | cons x l ih => simp only [sL_cons, sL_add, ih]
theorem sL_flat (l : List α) (f : α → List β) (g : β → Int) : sL (l.flatMap f) g = sL l fun x => sL (f x) g := by
  induction l with
  | nil => rfl
  | cons x l ih =>
    rw [List.flatMap_cons, sL_cons, ← ih]
    unfold sL
    rw [List.map_append, List.sum_append]
theorem sL_map (l : List α) (f : α → β) (g : β → Int) : sL (l.map f) g = sL l fun x => g (f x) := by
  unfold sL
  rw [List.map_map]
  rfl
theorem sL_filter (l : List α) (c : α → Bool) (g : α → Int) : ((l.filter c).map g).sum = sL l fun x => if c x = true then g x else 0 := by
  induction l with
  | nil => rfl
  | cons x l ih =>
    rw [List.filter_cons, sL_cons]
    by_cases h : c x = true
    · rw [if_pos h, if_pos h, List.map_cons, List.sum_cons, ih]
    · rw [if_neg h, if_neg h, ih, Int.zero_add]
theorem filter_length (l : List α) (c : α → Bool) : (((l.filter c).length : Nat) : Int) = sL l fun x => if c x = true then 1 else 0 := by
  rw [← sL_filter]
  induction l.filter c with
  | nil => rfl
  | cons x l ih => rw [List.length_cons, Int.natCast_succ, List.map_cons, List.sum_cons, ih]; omega
/-- one of the values is met -/
theorem sL_pick (x : Int) (r : Nat) (h0 : 0 ≤ x) (h1 : x < r) (g : Int) : sL (List.range r) (fun v => if x = (v : Int) then g else 0) = g := by
  induction r with
  | zero => omega
  | succ r ih =>
    have e : sL (List.range (r + 1)) (fun v => if x = (v : Int) then g else 0) = sL (List.range r) (fun v => if x = (v : Int) then g else 0) + if x = (r : Int) then g else 0 := by
      unfold sL
      rw [List.range_succ, List.map_append, List.sum_append]
      simp
    rw [e]
    by_cases hx : x = (r : Int)
    · rw [if_pos hx, sL_congr (h := fun _ => 0) (fun v hv => if_neg (by rw [List.mem_range] at hv; omega)), sL_zero, Int.zero_add]
    · rw [if_neg hx, ih (by omega), Int.add_zero]
/-- (sum of |x|)^2 <= many * sum of x^2 -/
theorem cauchy (g : α → Int) : ∀ l : List α, (∀ x ∈ l, 0 ≤ g x) → sL l g * sL l g ≤ l.length * sL l fun x => g x * g x
  | [], _ => by simp [sL]
  | x :: l, h => by
    have ih := cauchy g l fun y hy => h y (List.mem_cons_of_mem _ hy)
    have sq : 0 ≤ sL l fun y => (g x - g y) * (g x - g y) := by
      rw [← sL_zero l]
      exact sL_le fun y _ => by
        rcases Int.le_total 0 (g x - g y) with h | h
        · exact Int.mul_nonneg h h
        · exact Int.mul_nonneg_of_nonpos_of_nonpos h h
    have e : (sL l fun y => (g x - g y) * (g x - g y)) = g x * g x * l.length + -2 * g x * sL l g + sL l fun y => g y * g y := by
      rw [← sL_const, ← sL_mul, ← sL_add, ← sL_add]
      exact sL_congr fun y _ => by grind
    rw [e] at sq
    rw [sL_cons, sL_cons, List.length_cons, Int.natCast_succ]
    grind
end
/-! ### the counting of a family -/
section
variable {r : Int} {n : Nat} {fs : List (List Int)} {ws : List Int} {S : Int}
theorem cfv_sum (f : List Int) (v : Nat) : cfv n ws f v = sL (List.range n) fun k => if gx f k = (v : Int) then gx ws k else 0 := by
  unfold cfv
  rw [sL_filter]
  exact sL_congr fun k _ => by simp only [decide_eq_true_eq]
theorem Fam.gx (h : Fam r n fs) {f : List Int} (hf : f ∈ fs) {k : Nat} (hk : k < n) : 0 ≤ DL.gx f k ∧ DL.gx f k < r := by
  have hl := h.len f hf
  have e : DL.gx f k = f[k]'(by omega) := by
    unfold DL.gx
    rw [List.getD_eq_getElem?_getD, List.getElem?_eq_getElem (by omega)]
    rfl
  rw [e]
  exact h.val f hf _ (List.getElem_mem _)
theorem pick (h : Fam r n fs) {f : List Int} (hf : f ∈ fs) {k : Nat} (hk : k < n) (g : Int) : sL (List.range r.toNat) (fun v => if DL.gx f k = (v : Int) then g else 0) = g := by
  obtain ⟨h0, h1⟩ := h.gx hf hk
  exact sL_pick _ _ h0 (by omega) _
theorem ws_sum (h : RowW n ws S) : sL (List.range n) (fun k => DL.gx ws k) = S := by
  unfold sL
  rw [gx_range h.len, h.sum]
theorem c_row (hF : Fam r n fs) (hR : RowW n ws S) {f : List Int} (hf : f ∈ fs) : sL (List.range r.toNat) (fun v => cfv n ws f v) = S := by
  rw [← ws_sum hR]
  simp only [cfv_sum]
  rw [sL_swap]
  exact sL_congr fun k hk => pick hF hf (List.mem_range.mp hk) _
theorem dues_sum (g : Int → Int) : sL (duesI r n ws fs) g = sL fs fun f => sL (List.range r.toNat) fun v => g (cfv n ws f v) := by
  unfold duesI
  rw [sL_flat]
  exact sL_congr fun f _ => by rw [sL_map]
theorem c_all (hF : Fam r n fs) (hR : RowW n ws S) : sL (duesI r n ws fs) (fun c => c) = S * fs.length := by
  rw [dues_sum, ← sL_const]
  exact sL_congr fun f hf => c_row hF hR hf
theorem c_sq (hF : Fam r n fs) {f : List Int} (hf : f ∈ fs) : sL (List.range r.toNat) (fun v => cfv n ws f v * cfv n ws f v) = sL (List.range n) fun k => sL (List.range n) fun l => if DL.gx f k = DL.gx f l then DL.gx ws k * DL.gx ws l else 0 := by
  have e : ∀ v : Nat, cfv n ws f v * cfv n ws f v = sL (List.range n) fun k => sL (List.range n) fun l => if DL.gx f k = (v : Int) then (if DL.gx f l = (v : Int) then DL.gx ws k * DL.gx ws l else 0) else 0 := by
    intro v
    rw [cfv_sum, ← sL_mul]
    refine (sL_congr fun k _ => ?_)
    rw [Int.mul_comm, ← sL_mul]
    refine sL_congr fun l _ => ?_
    by_cases h1 : DL.gx f k = (v : Int)
    · rw [if_pos h1, if_pos h1]
      by_cases h2 : DL.gx f l = (v : Int)
      · rw [if_pos h2, if_pos h2]
      · rw [if_neg h2, if_neg h2, Int.mul_zero]
    · rw [if_neg h1, if_neg h1, Int.zero_mul]
  simp only [e]
  rw [sL_swap]
  refine sL_congr fun k hk => ?_
  rw [sL_swap]
  refine sL_congr fun l hl => ?_
  have h := pick hF hf (List.mem_range.mp hk) (if DL.gx f k = DL.gx f l then DL.gx ws k * DL.gx ws l else 0)
  rw [← h]
  refine sL_congr fun v _ => ?_
  by_cases h1 : DL.gx f k = (v : Int)
  · rw [if_pos h1, if_pos h1, h1]
    by_cases h2 : DL.gx f l = (v : Int)
    · rw [if_pos h2, if_pos h2.symm]
    · rw [if_neg h2, if_neg (fun z => h2 z.symm)]
  · rw [if_neg h1, if_neg h1]
theorem cnt_sum (a b : Nat) : cnt fs a b = sL fs fun f => if DL.gx f a = DL.gx f b then 1 else 0 := by
  unfold cnt
  rw [filter_length]
  exact sL_congr fun f _ => by simp only [decide_eq_true_eq]
theorem c_sq_all (hF : Fam r n fs) : sL (duesI r n ws fs) (fun c => c * c) = sL (List.range n) fun k => sL (List.range n) fun l => DL.gx ws k * DL.gx ws l * cnt fs k l := by
  rw [dues_sum, sL_congr (fun f hf => c_sq hF hf), sL_swap]
  refine sL_congr fun k _ => ?_
  rw [sL_swap]
  refine sL_congr fun l _ => ?_
  rw [cnt_sum, ← sL_mul]
  refine sL_congr fun f _ => ?_
  by_cases h : DL.gx f k = DL.gx f l
  · rw [if_pos h, if_pos h, Int.mul_one]
  · rw [if_neg h, if_neg h, Int.mul_zero]
theorem cnt_self (k : Nat) : cnt fs k k = fs.length := by
  rw [cnt_sum, sL_congr (h := fun _ => 1) (fun f _ => if_pos rfl), sL_const, Int.one_mul]
theorem univ_cnt (hF : Fam r n fs) (hu : univB r n fs = true) {k l : Nat} (hk : k < n) (hl : l < n) (hne : k ≠ l) : cnt fs k l * r ≤ fs.length := by
  have key : ∀ {a b : Nat}, a < b → b < n → cnt fs a b * r ≤ fs.length := fun {a b} hab hb => by
    have := of_decide_eq_true (List.all_eq_true.mp hu (a, b) (mem_pairsK.mpr ⟨hab, hb⟩))
    have h1 := hF.r1
    have h2 := hF.f1
    unfold met at this
    rw [divInt_le_iff (by omega) (by omega), Int.one_mul] at this
    exact this
  rcases Nat.lt_or_gt_of_ne hne with h | h
  · exact key h hl
  · have := key h hk
    have e : cnt fs k l = cnt fs l k := by
      rw [cnt_sum, cnt_sum]
      refine sL_congr fun f _ => ?_
      by_cases h : DL.gx f k = DL.gx f l
      · rw [if_pos h, if_pos h.symm]
      · rw [if_neg h, if_neg (fun z => h z.symm)]
    rw [e]
    exact this
theorem ws_prod (hR : RowW n ws S) : (sL (List.range n) fun k => sL (List.range n) fun l => DL.gx ws k * DL.gx ws l) = S * S := by
  have : ∀ k, (sL (List.range n) fun l => DL.gx ws k * DL.gx ws l) = S * DL.gx ws k := fun k => by rw [sL_mul, ws_sum hR, Int.mul_comm]
  simp only [this]
  rw [sL_mul, ws_sum hR]
theorem ws_sq (hR : RowW n ws S) : (sL (List.range n) fun k => DL.gx ws k * DL.gx ws k) = sqI ws := by
  have : sqI ws = sL ((List.range n).map fun k => DL.gx ws k) fun w => w * w := by rw [gx_range hR.len]; rfl
  rw [this, sL_map]
theorem sl_diag (n k : Nat) (hk : k < n) (g : Int) : sL (List.range n) (fun l => if (k : Int) = (l : Int) then g else 0) = g := sL_pick _ _ (by omega) (by omega) _
/-- r * the sum of the squares, for a universal family -/
theorem sq_bound (hF : Fam r n fs) (hR : RowW n ws S) (hu : univB r n fs = true) : r * sL (duesI r n ws fs) (fun c => c * c) ≤ fs.length * (S * S) + fs.length * (r - 1) * sqI ws := by
  rw [c_sq_all hF, ← sL_mul, ← ws_prod hR, ← ws_sq hR, ← sL_mul, ← sL_mul, ← sL_add]
  refine sL_le fun k hk => ?_
  rw [List.mem_range] at hk
  rw [← sL_mul, ← sL_mul, ← sl_diag n k hk (↑fs.length * (r - 1) * (DL.gx ws k * DL.gx ws k)), ← sL_add]
  refine sL_le fun l hl => ?_
  rw [List.mem_range] at hl
  have p0 : 0 ≤ DL.gx ws k * DL.gx ws l := Int.mul_nonneg (gx_pos hR.pos k) (gx_pos hR.pos l)
  by_cases hkl : k = l
  · subst hkl
    rw [if_pos rfl, cnt_self]
    refine Int.le_of_eq ?_
    grind
  · rw [if_neg (by omega), Int.add_zero]
    have := Int.mul_le_mul_of_nonneg_left (univ_cnt hF hu hk hl hkl) p0
    grind
def absI (r S : Int) (cs : List Int) : Int := sL cs fun c => ((c * r - S).natAbs : Int)
theorem dues_length (hF : Fam r n fs) : ((duesI r n ws fs).length : Int) = r * fs.length := by
  rw [dues_len, Int.natCast_mul, Int.toNat_of_nonneg (by have := hF.r1; omega), Int.mul_comm]
theorem dev_sum (hF : Fam r n fs) (hR : RowW n ws S) : sL (duesI r n ws fs) (fun c => c * r - S) = 0 := by
  have : sL (duesI r n ws fs) (fun c => c * r - S) = r * sL (duesI r n ws fs) (fun c => c) + sL (duesI r n ws fs) (fun _ => -S) := by
    rw [← sL_mul, ← sL_add]
    exact sL_congr fun c _ => by rw [Int.mul_comm r]; omega
  rw [this, c_all hF hR, sL_const, dues_length hF]
  grind
theorem abs_pos (hF : Fam r n fs) (hR : RowW n ws S) : absI r S (duesI r n ws fs) = 2 * posI r S (duesI r n ws fs) := by
  have e : 2 * posI r S (duesI r n ws fs) = absI r S (duesI r n ws fs) + sL (duesI r n ws fs) (fun c => c * r - S) := by
    show 2 * sL (duesI r n ws fs) _ = _
    unfold absI
    rw [← sL_mul, ← sL_add]
    exact sL_congr fun c _ => by omega
  rw [e, dev_sum hF hR, Int.add_zero]
/-- leftover hashing, in whole numbers -/
theorem leftover (hF : Fam r n fs) (hR : RowW n ws S) (hu : univB r n fs = true) : absI r S (duesI r n ws fs) * absI r S (duesI r n ws fs) ≤ r * r * r * (fs.length * fs.length) * sqI ws := by
  have cs := cauchy (fun c : Int => ((c * r - S).natAbs : Int)) (duesI r n ws fs) fun _ _ => by omega
  have e : (sL (duesI r n ws fs) fun c => ((c * r - S).natAbs : Int) * ((c * r - S).natAbs : Int)) = r * (r * sL (duesI r n ws fs) (fun c => c * c)) + (-2 * r * S) * sL (duesI r n ws fs) (fun c => c) + S * S * (r * fs.length) := by
    rw [← dues_length (ws := ws) hF, ← sL_const, ← sL_mul, ← sL_mul, ← sL_mul, ← sL_add, ← sL_add]
    refine sL_congr fun c _ => ?_
    rw [Int.natAbs_mul_self']
    grind
  rw [e, c_all hF hR, dues_length hF] at cs
  have sb := Int.mul_le_mul_of_nonneg_left (sq_bound hF hR hu) (show 0 ≤ r by have := hF.r1; omega)
  have r1 := hF.r1
  have f1 := hF.f1
  obtain ⟨q0, _⟩ := sq_le hR.pos
  have key : r * (r * sL (duesI r n ws fs) (fun c => c * c)) + (-2 * r * S) * (S * fs.length) + S * S * (r * fs.length) ≤ r * fs.length * (r * sqI ws) := by
    have h2 : 0 ≤ r * fs.length * sqI ws := Int.mul_nonneg (Int.mul_nonneg (by omega) (by omega)) q0
    grind
  have := Int.mul_le_mul_of_nonneg_left key (show 0 ≤ r * (fs.length : Int) from Int.mul_nonneg (by omega) (by omega))
  unfold absI
  grind
/-- independent families are universal -/
theorem ind_univ (hF : Fam r n fs) (hi : indB r n fs = true) : univB r n fs = true := by
  unfold univB
  rw [List.all_eq_true]
  intro p hp
  have h := List.all_eq_true.mp hi p hp
  rw [mem_pairsK] at hp
  rw [decide_eq_true_eq]
  have r1 := hF.r1
  have f1 := hF.f1
  unfold met
  rw [divInt_le_iff (by omega) (by omega), Int.one_mul]
  have hv : ∀ v ∈ List.range r.toNat, cnt2 fs p.1 p.2 v v * r * r = fs.length := fun v hv => of_decide_eq_true (List.all_eq_true.mp (List.all_eq_true.mp h v hv) v hv)
  have hc : cnt fs p.1 p.2 = sL (List.range r.toNat) fun v => cnt2 fs p.1 p.2 v v := by
    rw [cnt_sum]
    have e : ∀ v : Nat, cnt2 fs p.1 p.2 v v = sL fs fun f => if DL.gx f p.1 = (v : Int) then (if DL.gx f p.1 = DL.gx f p.2 then 1 else 0) else 0 := fun v => by
      unfold cnt2
      rw [filter_length]
      refine sL_congr fun f _ => ?_
      simp only [Bool.and_eq_true, decide_eq_true_eq]
      by_cases h1 : DL.gx f p.1 = (v : Int)
      · rw [if_pos h1, h1]
        by_cases h2 : DL.gx f p.2 = (v : Int)
        · rw [if_pos ⟨rfl, h2⟩, if_pos h2.symm]
        · rw [if_neg (fun z => h2 z.2), if_neg (fun z => h2 z.symm)]
      · rw [if_neg (fun z => h1 z.1), if_neg h1]
    simp only [e]
    rw [sL_swap]
    exact sL_congr fun f hf => (pick hF hf (by omega) _).symm
  have h3 : r * r * cnt fs p.1 p.2 = fs.length * r := by
    rw [hc, ← sL_mul, sL_congr (h := fun _ => (fs.length : Int)) (fun v hv' => by rw [← hv v hv']; grind), sL_const, List.length_range, Int.toNat_of_nonneg (by omega)]
  have h4 : r * (cnt fs p.1 p.2 * r) = r * fs.length := by grind
  exact Int.le_of_eq (Int.eq_of_mul_eq_mul_left (by omega) h4)
end
end DL

set_option Elab.async false
set_option linter.all false
set_option maxRecDepth 100000
set_option maxHeartbeats 4000000
namespace DL
open PySem PySem.Spec PyProof.Rows L2
/-! ### one family is looked at -/
section
variable {r : Int} {n : Nat} {fs : List (List Int)} {ws : List Int} {S : Int}
theorem fam_isFam (h : Fam r n fs) : isFam (famD r fs) = true := by
  have h1 := h.r1
  have h2 := h.r6
  have h3 := h.f1
  have h4 := h.f30
  have h5 := h.n1
  have h6 := h.n8
  obtain ⟨f0, fr, hfs, hn⟩ := h.head
  have e0 : (fs.map rowI).headD .none = rowI f0 := by rw [hfs]; rfl
  unfold famD isFam
  simp only [Bool.and_eq_true, decide_eq_true_eq, e0, List.length_map, intOf, isInt, Option.all_some]
  refine ⟨⟨h1, h2⟩, by omega, by omega, ?_, ?_, ?_, ?_⟩
  · rw [List.all_eq_true]
    intro d hd
    obtain ⟨f, hf, rfl⟩ := List.mem_map.mp hd
    show (f.map PyData.int).all _ = true
    rw [List.all_map, List.all_eq_true]
    intro x hx
    have := h.val f hf x hx
    show (decide (0 ≤ x) && decide (x ≤ r - 1)) = true
    rw [decide_eq_true this.1, decide_eq_true (by omega)]
    rfl
  · show 1 ≤ (((f0.map PyData.int).length : Nat) : Int)
    rw [List.length_map]
    omega
  · show (((f0.map PyData.int).length : Nat) : Int) ≤ 8
    rw [List.length_map]
    omega
  · rw [List.all_eq_true]
    intro d hd
    obtain ⟨f, hf, rfl⟩ := List.mem_map.mp hd
    have hl := h.len f hf
    show decide ((((f.map PyData.int).length : Nat) : Int) = ((f0.map PyData.int).length : Nat)) = true
    rw [List.length_map, List.length_map, decide_eq_true (by omega)]
theorem fam_ok (h : Fam r n fs) : famOk (famD r fs) := by
  intro x gs e
  have h4 := h.f30
  have h6 := h.n8
  unfold famD at e
  simp only [PyData.tuple.injEq, List.cons.injEq, and_true] at e
  obtain ⟨rfl, rfl⟩ := e
  refine ⟨by rw [List.length_map]; exact small (by omega), fun f hf ds hds => ?_⟩
  obtain ⟨g, hg, rfl⟩ := List.mem_map.mp hf
  unfold rowI at hds
  simp only [PyData.tuple.injEq] at hds
  subst hds
  rw [List.length_map, h.len g hg]
  exact small (by omega)
theorem divInt_eq {a b c d : Int} (hb : b ≠ 0) (hd : d ≠ 0) (h : a * d = c * b) : Rat.divInt a b = Rat.divInt c d := (Rat.divInt_eq_divInt_iff hb hd).mpr h
/-- a ratio's own parts, against any that make it -/
theorem parts {c T : Int} (hT : T ≠ 0) : (Rat.divInt c T).num * T = c * (Rat.divInt c T).den := (Rat.divInt_eq_divInt_iff (den_ne _) hT).mp (self_divInt _)
theorem due_low {c N : Int} (hS : S ≠ 0) (hN : N ≠ 0) : Rat.divInt (Rat.divInt c S).num ((Rat.divInt c S).den * N) = Rat.divInt c (S * N) := by
  refine divInt_eq (mul_ne (den_ne _) hN) (mul_ne hS hN) ?_
  have := parts (c := c) hS
  grind
theorem abs_low {x T : Int} (hT : 0 < T) : Rat.divInt ((Rat.divInt x T).num.natAbs : Int) (2 * (Rat.divInt x T).den) = Rat.divInt (x.natAbs : Int) (2 * T) := by
  have hd := den_pos (Rat.divInt x T)
  refine divInt_eq (by omega) (by omega) ?_
  have h := congrArg Int.natAbs (parts (c := x) (show T ≠ 0 by omega))
  rw [Int.natAbs_mul, Int.natAbs_mul] at h
  have h2 : (((Rat.divInt x T).num.natAbs * T.natAbs : Nat) : Int) = ((x.natAbs * ((Rat.divInt x T).den : Int).natAbs : Nat) : Int) := by rw [h]
  rw [Int.natCast_mul, Int.natCast_mul, Int.natAbs_of_nonneg (Int.le_of_lt hT), Int.natAbs_of_nonneg (Int.le_of_lt hd)] at h2
  grind
theorem less_eq {c N : Int} (hS : S ≠ 0) (hN : N ≠ 0) (hr : r ≠ 0) : Rat.divInt c (S * N) + -Rat.divInt 1 (r * N) = Rat.divInt (c * r - S) (S * N * r) := by
  rw [Rat.neg_divInt, Rat.divInt_add_divInt _ _ (mul_ne hS hN) (mul_ne hr hN)]
  refine divInt_eq (mul_ne (mul_ne hS hN) (mul_ne hr hN)) (mul_ne (mul_ne hS hN) hr) ?_
  grind
theorem divInt_add {a b T : Int} (hT : T ≠ 0) : Rat.divInt a T + Rat.divInt b T = Rat.divInt (a + b) T := by
  rw [Rat.divInt_add_divInt _ _ hT hT, ← Int.add_mul, Rat.divInt_mul_right hT]
theorem absI_snoc (r S : Int) (cs : List Int) (c : Int) : absI r S (cs ++ [c]) = absI r S cs + ((c * r - S).natAbs : Int) := by
  unfold absI sL
  rw [List.map_append, List.sum_append]
  simp
theorem absI_bd (hF : Fam r n fs) (hR : RowW n ws S) (cs : List Int) (h : ∀ c ∈ cs, 0 ≤ c ∧ c ≤ S) (hl : cs.length ≤ 180) : 0 ≤ absI r S cs ∧ absI r S cs ≤ 1000000 := by
  have r1 := hF.r1
  have r6 := hF.r6
  have s1 := hR.s1
  have s2 := hR.s2
  have h1 : absI r S cs ≤ sL cs fun _ => 762 := sL_le fun c hc => by
    obtain ⟨c0, c1⟩ := h c hc
    have h2 : c * r ≤ 127 * 6 := Int.mul_le_mul (by omega) (by omega) (by omega) (by omega)
    have h3 : 0 ≤ c * r := Int.mul_nonneg c0 (by omega)
    omega
  have h0 : sL cs (fun _ => 0) ≤ absI r S cs := sL_le fun c _ => by omega
  rw [sL_zero] at h0
  rw [sL_const] at h1
  have : (762 : Int) * cs.length ≤ 762 * 180 := Int.mul_le_mul_of_nonneg_left (by omega) (by decide)
  omega
theorem int_qD (i : Int) : qD (i : Rat) = .tuple [.int i, .int 1] := rfl
theorem int_divInt (i : Int) : (i : Rat) = Rat.divInt i 1 := (Rat.num_divInt_den (i : Rat)).symm
theorem last_bound (hF : Fam r n fs) (hR : RowW n ws S) (hu : univB r n fs = true) :
    ¬ ((r : Rat) * Rat.divInt (sqI ws) (S * S) < ((4 : Int) : Rat) * (Rat.divInt (absI r S (duesI r n ws fs)) (2 * (S * fs.length * r)) * Rat.divInt (absI r S (duesI r n ws fs)) (2 * (S * fs.length * r)))) := by
  obtain ⟨q0, _⟩ := snr_bd hF hR
  have s1 := hR.s1
  have hSS : 0 < S * S := Int.mul_pos (by omega) (by omega)
  have hT : 0 < 2 * (S * fs.length * r) := by omega
  rw [int_divInt r, int_divInt 4, Rat.divInt_mul_divInt, Rat.divInt_mul_divInt, Rat.divInt_mul_divInt, divInt_lt_iff (by omega) (Int.mul_pos (by decide) (Int.mul_pos hT hT))]
  have lo := Int.mul_le_mul_of_nonneg_left (leftover hF hR hu) (show 0 ≤ 4 * (S * S) by omega)
  grind
end
def φ__law_fine : Phi := fun as P _ => ∃ (r : Int) (n : Nat) (fs : List (List Int)), as = [.dr, .fz (famD r fs)] ∧ Fam r n fs ∧ P (.bool true)
structure Fine (Γ : Gam) : Prop where
  cf : Γ.Φ "check_family" = φ_check_family
  iu : Γ.Φ "is_universal" = φ_is_universal
  lu : Γ.Φ "_law_universal" = φ__law_universal
  ii : Γ.Φ "is_independent" = φ_is_independent
  li : Γ.Φ "_law_independent" = φ__law_independent
  pb : Γ.Φ "_law_pairs_below" = φ__law_pairs_below
  me : Γ.Φ "meeting" = φ_meeting
  lm : Γ.Φ "_law_met" = φ__law_met
  lr : Γ.Φ "_law_row" = φ__law_row
  ll : Γ.Φ "_law_lowest" = φ__law_lowest
  lt : Γ.Φ "_law_total" = φ__law_total
  lp : Γ.Φ "_law_plus" = φ__law_plus
  lx : Γ.Φ "_law_times" = φ__law_times
  le : Γ.Φ "_law_less" = φ__law_less
  dr : Γ.Φ "drawn" = φ_drawn
  fe : Γ.Φ "from_even" = φ_from_even
  mo : Γ.Φ "meeting_of" = φ_meeting_of
theorem qD0 (q : Rat) (Q : D → Prop) : dSub1 (qD q) (.int 0) Q = Q (.int q.num) := by simp only [qD, true_and, wpSs, wpS, wpE, wpX, wpO, wpC, wpI, ent, kt0, bindT, bindTs, tgsLen, wipeR, constD, owL, List.map_cons, List.map_nil, List.length_cons, List.length_nil, List.replicate, List.cons_append, List.nil_append, Nat.reduceSub, Nat.reduceAdd, List.getElem?_cons_zero, List.getElem?_cons_succ, List.getElem?_nil, List.set_cons_zero, List.set_cons_succ, opF, cmpF, Bi.fd, Option.map_some, if_true, if_false, Bool.true_eq_false, Bool.false_eq_true, reduceIte, Bool.not_true, Bool.not_false, w_some, w_none, w_fz0, w_fz1, w_t0, w_t1, w_t2, w_t3, w_t4, w_add, w_addL, w_addT, w_sub, w_subB, w_mul, w_mulL, w_mulT, w_mod, w_div, w_lt, w_le, w_gt, w_ge, w_is, w_isnt, w_n0, w_n1, w_n2, w_n3, w_n4, w_neg, w_atL, w_atT, w_lenL, w_lenT, w_tupL, w_tupT, w_lisL, w_lisT, w_abs, w_int, w_intB, w_gcd, w_min, w_max, w_seqL, w_seqT, w_augA, w_augS, w_augM, w_intQ, w_lstQ, w_rng1, w_rng2, w_zipL, w_zipT, w_enum, atI0]
theorem qD1 (q : Rat) (Q : D → Prop) : dSub1 (qD q) (.int 1) Q = Q (.int q.den) := by simp only [qD, true_and, wpSs, wpS, wpE, wpX, wpO, wpC, wpI, ent, kt0, bindT, bindTs, tgsLen, wipeR, constD, owL, List.map_cons, List.map_nil, List.length_cons, List.length_nil, List.replicate, List.cons_append, List.nil_append, Nat.reduceSub, Nat.reduceAdd, List.getElem?_cons_zero, List.getElem?_cons_succ, List.getElem?_nil, List.set_cons_zero, List.set_cons_succ, opF, cmpF, Bi.fd, Option.map_some, if_true, if_false, Bool.true_eq_false, Bool.false_eq_true, reduceIte, Bool.not_true, Bool.not_false, w_some, w_none, w_fz0, w_fz1, w_t0, w_t1, w_t2, w_t3, w_t4, w_add, w_addL, w_addT, w_sub, w_subB, w_mul, w_mulL, w_mulT, w_mod, w_div, w_lt, w_le, w_gt, w_ge, w_is, w_isnt, w_n0, w_n1, w_n2, w_n3, w_n4, w_neg, w_atL, w_atT, w_lenL, w_lenT, w_tupL, w_tupT, w_lisL, w_lisT, w_abs, w_int, w_intB, w_gcd, w_min, w_max, w_seqL, w_seqT, w_augA, w_augS, w_augM, w_intQ, w_lstQ, w_rng1, w_rng2, w_zipL, w_zipT, w_enum, atI1]
theorem dNeB {a b : Bool} {Q : D → Prop} (h : Q (.bool (!decide (a = b)))) : dNe (.bool a) (.bool b) Q := dNeT (α := Bool) h
theorem dNeQ {a b : Rat} {Q : D → Prop} (h : Q (.bool (!decide (a = b)))) : dNe (qD a) (qD b) Q := dNeT (α := Rat) h
theorem dNeTu {a b : List Rat} {Q : D → Prop} (h : Q (.bool (!decide (a = b)))) : dNe (.tuple (a.map qD)) (.tuple (b.map qD)) Q := by
  have := dNeT (α := Tu Rat) (x := ⟨a⟩) (y := ⟨b⟩) (Q := Q) (by
    rw [show decide ((⟨a⟩ : Tu Rat) = ⟨b⟩) = decide (a = b) from decide_eq_decide.mpr ⟨fun e => congrArg Tu.l e, fun e => by rw [e]⟩]
    exact h)
  exact this
theorem dNe_nil {Q : D → Prop} (h : Q (.bool false)) : dNe (.list []) (.list []) Q := ⟨rfl, rfl, h⟩
theorem dEq_nil {Q : D → Prop} (h : Q (.bool true)) : dEq (.list []) (.list []) Q := ⟨rfl, rfl, h⟩
end DL

set_option Elab.async false
set_option linter.all false
set_option maxRecDepth 100000
set_option maxHeartbeats 16000000
namespace DL
open PySem PySem.Spec PyProof.Rows L2
theorem atI_last1 {α : Type} (l : List α) (x : α) : atI (l ++ [x]) (-1) = some x := atI_last l x
def stsGet : Nat → Sts → DL.St
  | 0, .cons s _ => s
  | k + 1, .cons _ ss => stsGet k ss
  | _, .nil => .pss
def stsDrop : Nat → Sts → Sts
  | 0, ss => ss
  | k + 1, .cons _ ss => stsDrop k ss
  | _ + 1, .nil => .nil
section
variable {Γ : Gam} {P : D → Prop} {PE : Str → Prop} {r : Int} {n : Nat} {fs : List (List Int)} {ws : List Int} {S : Int}
/-- behind the loops -/
theorem fine_end (g : Fine Γ) (hF : Fam r n fs) (hR : RowW n ws S) (hP : P (.bool true)) (y8 y9 y10 y11 y12 : Option Sl) :
    wpSs Γ (stsDrop 9 d__law_fine.body) [some .dr, some (.fz (famD r fs)), some (.fz (.int r)), some (.fz (.tuple (fs.map rowI))), some (.fz (.int n)), some (.fz (rowD ws S)), some (.ow (.list ((duesI r n ws fs).map (dueE S fs.length)))), some (.fz (qD (Rat.divInt (absI r S (duesI r n ws fs)) (2 * (S * fs.length * r))))), y8, y9, y10, y11, y12, none, none, none, none, none] (kt0 P PE) := by
  have r1 := hF.r1
  have r6 := hF.r6
  have f1 := hF.f1
  have f30 := hF.f30
  have n1 := hF.n1
  have n8 := hF.n8
  have s1 := hR.s1
  have s2 := hR.s2
  obtain ⟨q0, q1⟩ := snr_bd hF hR
  obtain ⟨a0, a1⟩ := absI_bd hF hR (duesI r n ws fs) (dues_pos hR fs) (by
    rw [dues_len]
    exact Nat.mul_le_mul f30 (show r.toNat ≤ 6 by omega))
  obtain ⟨w0, w1⟩ := sq_le hR.pos
  rw [hR.sum] at w1
  have hSS : S * S ≤ 127 * 127 := Int.mul_le_mul s2 s2 (by omega) (by omega)
  have hSS0 : 0 < S * S := Int.mul_pos (by omega) (by omega)
  have hrow : ∀ Q : List D → Prop, seqOf (rowD ws S) Q = Q (ws.map fun w => qD (Rat.divInt w S)) := fun Q => rfl
  have zf : Sz 20 (Rat.divInt (absI r S (duesI r n ws fs)) (2 * (S * fs.length * r))) := Sz.divInt (bd20 a0 a1) (bd20 (by omega) (by omega)) (by omega) (by decide) (by decide)
  have zm : Sz 20 (Rat.divInt (sqI ws) (S * S)) := Sz.divInt (bd20 w0 (by omega)) (bd20 (by omega) (by omega)) (by omega) (by decide) (by decide)
  have zr : Sz 20 (r : Rat) := ⟨(bd20 (by omega) (by omega) : Bd 20 r), (bd20 (by decide) (by decide) : Bd 20 (1 : Int))⟩
  have z4 : Sz 20 ((4 : Int) : Rat) := ⟨bd20 (show (0 : Int) ≤ 4 by decide) (by decide), bd20 (show (0 : Int) ≤ 1 by decide) (by decide)⟩
  simp only [stsDrop, d__law_fine, true_and, wpSs, wpS, wpE, wpX, wpO, wpC, wpI, ent, kt0, bindT, bindTs, tgsLen, wipeR, constD, owL, List.map_cons, List.map_nil, List.length_cons, List.length_nil, List.replicate, List.cons_append, List.nil_append, Nat.reduceSub, Nat.reduceAdd, List.getElem?_cons_zero, List.getElem?_cons_succ, List.getElem?_nil, List.set_cons_zero, List.set_cons_succ, opF, cmpF, Bi.fd, Option.map_some, if_true, if_false, Bool.true_eq_false, Bool.false_eq_true, reduceIte, Bool.not_true, Bool.not_false, w_some, w_none, w_fz0, w_fz1, w_t0, w_t1, w_t2, w_t3, w_t4, w_add, w_addL, w_addT, w_sub, w_subB, w_mul, w_mulL, w_mulT, w_mod, w_div, w_lt, w_le, w_gt, w_ge, w_is, w_isnt, w_n0, w_n1, w_n2, w_n3, w_n4, w_neg, w_atL, w_atT, w_lenL, w_lenT, w_tupL, w_tupT, w_lisL, w_lisT, w_abs, w_int, w_intB, w_gcd, w_min, w_max, w_seqL, w_seqT, w_augA, w_augS, w_augM, w_intQ, w_lstQ, w_rng1, w_rng2, w_zipL, w_zipT, w_enum, hrow, g.lx, g.lt, g.dr, g.fe, g.mo, g.lu, g.le]
  refine ⟨by rw [List.length_map, hR.len]; exact small (by omega), ?_⟩
  refine foldW_map (fun w => qD (Rat.divInt w S * Rat.divInt w S)) (fun w acc kk hw hk => ?_) ?_
  · have z := row_sz hR hw
    exact ⟨_, _, 7, 7, rfl, z, z, by decide, hk⟩
  refine sq_args hR _ ?_ _
  refine ⟨r, n, fs, ws, S, rfl, hF, hR, ?_⟩
  have same : (duesI r n ws fs).map (dueE S fs.length) = ((duesI r n ws fs).map fun c => Rat.divInt c (S * fs.length)).map qD := by
    rw [List.map_map]
    rfl
  rw [same]
  refine dNeTu ?_
  rw [decide_eq_true rfl]
  simp only [true_and, wpSs, wpS, wpE, wpX, wpO, wpC, wpI, ent, kt0, bindT, bindTs, tgsLen, wipeR, constD, owL, List.map_cons, List.map_nil, List.length_cons, List.length_nil, List.replicate, List.cons_append, List.nil_append, Nat.reduceSub, Nat.reduceAdd, List.getElem?_cons_zero, List.getElem?_cons_succ, List.getElem?_nil, List.set_cons_zero, List.set_cons_succ, opF, cmpF, Bi.fd, Option.map_some, if_true, if_false, Bool.true_eq_false, Bool.false_eq_true, reduceIte, Bool.not_true, Bool.not_false, w_some, w_none, w_fz0, w_fz1, w_t0, w_t1, w_t2, w_t3, w_t4, w_add, w_addL, w_addT, w_sub, w_subB, w_mul, w_mulL, w_mulT, w_mod, w_div, w_lt, w_le, w_gt, w_ge, w_is, w_isnt, w_n0, w_n1, w_n2, w_n3, w_n4, w_neg, w_atL, w_atT, w_lenL, w_lenT, w_tupL, w_tupT, w_lisL, w_lisT, w_abs, w_int, w_intB, w_gcd, w_min, w_max, w_seqL, w_seqT, w_augA, w_augS, w_augM, w_intQ, w_lstQ, w_rng1, w_rng2, w_zipL, w_zipT, w_enum]
  refine ⟨r, n, fs, ws, S, rfl, hF, hR, dNeQ ?_⟩
  have fe : Rat.divInt (posI r S (duesI r n ws fs)) (S * fs.length * r) = Rat.divInt (absI r S (duesI r n ws fs)) (2 * (S * fs.length * r)) := by
    rw [abs_pos hF hR, Rat.divInt_mul_left (by decide)]
  rw [decide_eq_true fe]
  simp only [true_and, wpSs, wpS, wpE, wpX, wpO, wpC, wpI, ent, kt0, bindT, bindTs, tgsLen, wipeR, constD, owL, List.map_cons, List.map_nil, List.length_cons, List.length_nil, List.replicate, List.cons_append, List.nil_append, Nat.reduceSub, Nat.reduceAdd, List.getElem?_cons_zero, List.getElem?_cons_succ, List.getElem?_nil, List.set_cons_zero, List.set_cons_succ, opF, cmpF, Bi.fd, Option.map_some, if_true, if_false, Bool.true_eq_false, Bool.false_eq_true, reduceIte, Bool.not_true, Bool.not_false, w_some, w_none, w_fz0, w_fz1, w_t0, w_t1, w_t2, w_t3, w_t4, w_add, w_addL, w_addT, w_sub, w_subB, w_mul, w_mulL, w_mulT, w_mod, w_div, w_lt, w_le, w_gt, w_ge, w_is, w_isnt, w_n0, w_n1, w_n2, w_n3, w_n4, w_neg, w_atL, w_atT, w_lenL, w_lenT, w_tupL, w_tupT, w_lisL, w_lisT, w_abs, w_int, w_intB, w_gcd, w_min, w_max, w_seqL, w_seqT, w_augA, w_augS, w_augM, w_intQ, w_lstQ, w_rng1, w_rng2, w_zipL, w_zipT, w_enum]
  refine ⟨n, ws, S, rfl, by omega, hR, dNeQ ?_⟩
  rw [decide_eq_true rfl]
  simp only [true_and, wpSs, wpS, wpE, wpX, wpO, wpC, wpI, ent, kt0, bindT, bindTs, tgsLen, wipeR, constD, owL, List.map_cons, List.map_nil, List.length_cons, List.length_nil, List.replicate, List.cons_append, List.nil_append, Nat.reduceSub, Nat.reduceAdd, List.getElem?_cons_zero, List.getElem?_cons_succ, List.getElem?_nil, List.set_cons_zero, List.set_cons_succ, opF, cmpF, Bi.fd, Option.map_some, if_true, if_false, Bool.true_eq_false, Bool.false_eq_true, reduceIte, Bool.not_true, Bool.not_false, w_some, w_none, w_fz0, w_fz1, w_t0, w_t1, w_t2, w_t3, w_t4, w_add, w_addL, w_addT, w_sub, w_subB, w_mul, w_mulL, w_mulT, w_mod, w_div, w_lt, w_le, w_gt, w_ge, w_is, w_isnt, w_n0, w_n1, w_n2, w_n3, w_n4, w_neg, w_atL, w_atT, w_lenL, w_lenT, w_tupL, w_tupT, w_lisL, w_lisT, w_abs, w_int, w_intB, w_gcd, w_min, w_max, w_seqL, w_seqT, w_augA, w_augS, w_augM, w_intQ, w_lstQ, w_rng1, w_rng2, w_zipL, w_zipT, w_enum]
  refine ⟨r, n, fs, rfl, hF, ?_⟩
  cases hu : univB r n fs with
  | false =>
    simp only [true_and, wpSs, wpS, wpE, wpX, wpO, wpC, wpI, ent, kt0, bindT, bindTs, tgsLen, wipeR, constD, owL, List.map_cons, List.map_nil, List.length_cons, List.length_nil, List.replicate, List.cons_append, List.nil_append, Nat.reduceSub, Nat.reduceAdd, List.getElem?_cons_zero, List.getElem?_cons_succ, List.getElem?_nil, List.set_cons_zero, List.set_cons_succ, opF, cmpF, Bi.fd, Option.map_some, if_true, if_false, Bool.true_eq_false, Bool.false_eq_true, reduceIte, Bool.not_true, Bool.not_false, w_some, w_none, w_fz0, w_fz1, w_t0, w_t1, w_t2, w_t3, w_t4, w_add, w_addL, w_addT, w_sub, w_subB, w_mul, w_mulL, w_mulT, w_mod, w_div, w_lt, w_le, w_gt, w_ge, w_is, w_isnt, w_n0, w_n1, w_n2, w_n3, w_n4, w_neg, w_atL, w_atT, w_lenL, w_lenT, w_tupL, w_tupT, w_lisL, w_lisT, w_abs, w_int, w_intB, w_gcd, w_min, w_max, w_seqL, w_seqT, w_augA, w_augS, w_augM, w_intQ, w_lstQ, w_rng1, w_rng2, w_zipL, w_zipT, w_enum]
    exact hP
  | true =>
    simp only [true_and, wpSs, wpS, wpE, wpX, wpO, wpC, wpI, ent, kt0, bindT, bindTs, tgsLen, wipeR, constD, owL, List.map_cons, List.map_nil, List.length_cons, List.length_nil, List.replicate, List.cons_append, List.nil_append, Nat.reduceSub, Nat.reduceAdd, List.getElem?_cons_zero, List.getElem?_cons_succ, List.getElem?_nil, List.set_cons_zero, List.set_cons_succ, opF, cmpF, Bi.fd, Option.map_some, if_true, if_false, Bool.true_eq_false, Bool.false_eq_true, reduceIte, Bool.not_true, Bool.not_false, w_some, w_none, w_fz0, w_fz1, w_t0, w_t1, w_t2, w_t3, w_t4, w_add, w_addL, w_addT, w_sub, w_subB, w_mul, w_mulL, w_mulT, w_mod, w_div, w_lt, w_le, w_gt, w_ge, w_is, w_isnt, w_n0, w_n1, w_n2, w_n3, w_n4, w_neg, w_atL, w_atT, w_lenL, w_lenT, w_tupL, w_tupT, w_lisL, w_lisT, w_abs, w_int, w_intB, w_gcd, w_min, w_max, w_seqL, w_seqT, w_augA, w_augS, w_augM, w_intQ, w_lstQ, w_rng1, w_rng2, w_zipL, w_zipT, w_enum]
    have zff := zf.mul zf (Nat.le_refl _)
    refine ⟨(r : Rat), _, 20, 20, rfl, zr, zm, by decide, _, _, 20, 20, rfl, zf, zf, by decide, ((4 : Int) : Rat), _, 20, 40, rfl, z4, zff, by decide, ?_⟩
    have zx := zr.mul zm (Nat.le_refl _)
    have zy := z4.mul zff (Nat.le_refl _)
    refine ⟨_, _, _, _, 40, 60, rfl, zx.num, zx.den, zy.num, zy.den, by decide, ?_⟩
    have lb := last_bound hF hR hu
    rw [Rat.lt_iff] at lb
    rw [decide_eq_false lb]
    exact hP
/-- the loops -/
theorem fine_mid (g : Fine Γ) (hF : Fam r n fs) (hP : P (.bool true)) :
    wpSs Γ (stsDrop 4 d__law_fine.body) [some .dr, some (.fz (famD r fs)), some (.fz (.int r)), some (.fz (.tuple (fs.map rowI))), some (.fz (.int n)), none, none, none, none, none, none, none, none, none, none, none, none, none] (kt0 P PE) := by
  have r1 := hF.r1
  have r6 := hF.r6
  have f1 := hF.f1
  have f30 := hF.f30
  have n1 := hF.n1
  have n8 := hF.n8
  have e : stsDrop 4 d__law_fine.body = .cons (stsGet 4 d__law_fine.body) (.cons (stsGet 5 d__law_fine.body) (.cons (stsGet 6 d__law_fine.body) (.cons (stsGet 7 d__law_fine.body) (.cons (stsGet 8 d__law_fine.body) (stsDrop 9 d__law_fine.body))))) := rfl
  have fin := fun ws S (hR : RowW n ws S) => fine_end (PE := PE) g hF hR hP
  rw [e]
  generalize stsDrop 9 d__law_fine.body = T at fin ⊢
  simp only [stsGet, d__law_fine, true_and, wpSs, wpS, wpE, wpX, wpO, wpC, wpI, ent, kt0, bindT, bindTs, tgsLen, wipeR, constD, owL, List.map_cons, List.map_nil, List.length_cons, List.length_nil, List.replicate, List.cons_append, List.nil_append, Nat.reduceSub, Nat.reduceAdd, List.getElem?_cons_zero, List.getElem?_cons_succ, List.getElem?_nil, List.set_cons_zero, List.set_cons_succ, opF, cmpF, Bi.fd, Option.map_some, if_true, if_false, Bool.true_eq_false, Bool.false_eq_true, reduceIte, Bool.not_true, Bool.not_false, w_some, w_none, w_fz0, w_fz1, w_t0, w_t1, w_t2, w_t3, w_t4, w_add, w_addL, w_addT, w_sub, w_subB, w_mul, w_mulL, w_mulT, w_mod, w_div, w_lt, w_le, w_gt, w_ge, w_is, w_isnt, w_n0, w_n1, w_n2, w_n3, w_n4, w_neg, w_atL, w_atT, w_lenL, w_lenT, w_tupL, w_tupT, w_lisL, w_lisT, w_abs, w_int, w_intB, w_gcd, w_min, w_max, w_seqL, w_seqT, w_augA, w_augS, w_augM, w_intQ, w_lstQ, w_rng1, w_rng2, w_zipL, w_zipT, w_enum, g.lr, g.ll, g.lt, g.lp, List.length_map]
  refine ⟨n, rfl, n1, by omega, fun ws S hR => ?_⟩
  have s1 := hR.s1
  have s2 := hR.s2
  have fin := fin ws S hR
  have hrN : 0 < r * (fs.length : Int) := Int.mul_pos (by omega) (by omega)
  have hrN2 : r * (fs.length : Int) ≤ 6 * 30 := Int.mul_le_mul r6 (by omega) (by omega) (by omega)
  obtain ⟨q0, q1⟩ := snr_bd hF hR
  refine ⟨(bd5 (by omega) (by omega) : Bd 5 r).mulOk hF.bd (by decide), ?_⟩
  refine ⟨1, _, 5, 20, rfl, hrN, bd5 (by omega) (by omega), bd20 (by omega) (by omega), by decide, by decide, ?_⟩
  have z0 : (.tuple [.int 0, .int 1] : D) = qD (Rat.divInt (absI r S (duesI r n ws [])) (2 * (S * fs.length * r))) := by
    show _ = qD (Rat.divInt 0 _)
    rw [Rat.zero_divInt]
    rfl
  have ze : Sz 20 (Rat.divInt 1 (r * fs.length)) := Sz.divInt (bd20 (by decide) (by decide)) (bd20 (by omega) (by omega)) (by omega) (by decide) (by decide)
  refine forW_inv (I := fun done ρ => ∃ y9 y10 y11 y12, ρ = [some .dr, some (.fz (famD r fs)), some (.fz (.int r)), some (.fz (.tuple (fs.map rowI))), some (.fz (.int n)), some (.fz (rowD ws S)), some (.ow (.list ((duesI r n ws done).map (dueE S fs.length)))), some (.fz (qD (Rat.divInt (absI r S (duesI r n ws done)) (2 * (S * fs.length * r))))), some (.fz (qD (Rat.divInt 1 (r * fs.length)))), y9, y10, y11, y12, none, none, none, none, none])
    ⟨none, none, none, none, by rw [z0]; rfl⟩ (fun done f rest ρ kk el hI hk => ?_) (fun ρ hI => ?_)
  · obtain ⟨y9, y10, y11, y12, rfl⟩ := hI
    have hfm : f ∈ fs := by rw [el]; simp
    have hlf := hF.len f hfm
    have hdl : done.length + 1 ≤ fs.length := by rw [el]; simp
    simp only [true_and, wpSs, wpS, wpE, wpX, wpO, wpC, wpI, ent, kt0, bindT, bindTs, tgsLen, wipeR, constD, owL, List.map_cons, List.map_nil, List.length_cons, List.length_nil, List.replicate, List.cons_append, List.nil_append, Nat.reduceSub, Nat.reduceAdd, List.getElem?_cons_zero, List.getElem?_cons_succ, List.getElem?_nil, List.set_cons_zero, List.set_cons_succ, opF, cmpF, Bi.fd, Option.map_some, if_true, if_false, Bool.true_eq_false, Bool.false_eq_true, reduceIte, Bool.not_true, Bool.not_false, w_some, w_none, w_fz0, w_fz1, w_t0, w_t1, w_t2, w_t3, w_t4, w_add, w_addL, w_addT, w_sub, w_subB, w_mul, w_mulL, w_mulT, w_mod, w_div, w_lt, w_le, w_gt, w_ge, w_is, w_isnt, w_n0, w_n1, w_n2, w_n3, w_n4, w_neg, w_atL, w_atT, w_lenL, w_lenT, w_tupL, w_tupT, w_lisL, w_lisT, w_abs, w_int, w_intB, w_gcd, w_min, w_max, w_seqL, w_seqT, w_augA, w_augS, w_augM, w_intQ, w_lstQ, w_rng1, w_rng2, w_zipL, w_zipT, w_enum]
    refine ⟨rngOk_small (by omega) (by omega), ?_⟩
    rw [rangeD0]
    refine forW_inv (I := fun d2 ρ => ∃ y10 y11 y12, ρ = [some .dr, some (.fz (famD r fs)), some (.fz (.int r)), some (.fz (.tuple (fs.map rowI))), some (.fz (.int n)), some (.fz (rowD ws S)), some (.ow (.list ((duesI r n ws done ++ d2.map fun v => cfv n ws f v).map (dueE S fs.length)))), some (.fz (qD (Rat.divInt (absI r S (duesI r n ws done ++ d2.map fun v => cfv n ws f v)) (2 * (S * fs.length * r))))), some (.fz (qD (Rat.divInt 1 (r * fs.length)))), some (.fz (rowI f)), y10, y11, y12, none, none, none, none, none])
      ⟨y10, y11, y12, by simp⟩ (fun d2 v rest2 ρ kk el2 hI hk => ?_) (fun ρ hI => ?_)
    · obtain ⟨y10, y11, y12, rfl⟩ := hI
      have hd2 : d2.length < r.toNat := by
        have := congrArg List.length el2
        rw [List.length_range, List.length_append, List.length_cons] at this
        omega
      simp only [true_and, wpSs, wpS, wpE, wpX, wpO, wpC, wpI, ent, kt0, bindT, bindTs, tgsLen, wipeR, constD, owL, List.map_cons, List.map_nil, List.length_cons, List.length_nil, List.replicate, List.cons_append, List.nil_append, Nat.reduceSub, Nat.reduceAdd, List.getElem?_cons_zero, List.getElem?_cons_succ, List.getElem?_nil, List.set_cons_zero, List.set_cons_succ, opF, cmpF, Bi.fd, Option.map_some, if_true, if_false, Bool.true_eq_false, Bool.false_eq_true, reduceIte, Bool.not_true, Bool.not_false, w_some, w_none, w_fz0, w_fz1, w_t0, w_t1, w_t2, w_t3, w_t4, w_add, w_addL, w_addT, w_sub, w_subB, w_mul, w_mulL, w_mulT, w_mod, w_div, w_lt, w_le, w_gt, w_ge, w_is, w_isnt, w_n0, w_n1, w_n2, w_n3, w_n4, w_neg, w_atL, w_atT, w_lenL, w_lenT, w_tupL, w_tupT, w_lisL, w_lisT, w_abs, w_int, w_intB, w_gcd, w_min, w_max, w_seqL, w_seqT, w_augA, w_augS, w_augM, w_intQ, w_lstQ, w_rng1, w_rng2, w_zipL, w_zipT, w_enum]
      refine ⟨rngOk_small (by omega) (by omega), ?_⟩
      rw [Int.toNat_natCast, rangeD0]
      refine ⟨by rw [List.length_map, List.length_range]; exact small (by omega), ?_⟩
      refine foldW_filter (fun k => decide (gx f k = v)) (fun k => qD (Rat.divInt (gx ws k) S)) (fun k acc kk hkm hk => ?_) ?_
      · rw [List.mem_range] at hkm
        simp only [rowI, true_and, wpSs, wpS, wpE, wpX, wpO, wpC, wpI, ent, kt0, bindT, bindTs, tgsLen, wipeR, constD, owL, List.map_cons, List.map_nil, List.length_cons, List.length_nil, List.replicate, List.cons_append, List.nil_append, Nat.reduceSub, Nat.reduceAdd, List.getElem?_cons_zero, List.getElem?_cons_succ, List.getElem?_nil, List.set_cons_zero, List.set_cons_succ, opF, cmpF, Bi.fd, Option.map_some, if_true, if_false, Bool.true_eq_false, Bool.false_eq_true, reduceIte, Bool.not_true, Bool.not_false, w_some, w_none, w_fz0, w_fz1, w_t0, w_t1, w_t2, w_t3, w_t4, w_add, w_addL, w_addT, w_sub, w_subB, w_mul, w_mulL, w_mulT, w_mod, w_div, w_lt, w_le, w_gt, w_ge, w_is, w_isnt, w_n0, w_n1, w_n2, w_n3, w_n4, w_neg, w_atL, w_atT, w_lenL, w_lenT, w_tupL, w_tupT, w_lisL, w_lisT, w_abs, w_int, w_intB, w_gcd, w_min, w_max, w_seqL, w_seqT, w_augA, w_augS, w_augM, w_intQ, w_lstQ, w_rng1, w_rng2, w_zipL, w_zipT, w_enum, atI_row (show k < f.length by omega), rowD_at hR hkm]
        refine dEqI ?_
        by_cases hc : gx f k = v
        · rw [decide_eq_true hc] at hk ⊢
          exact hk
        · rw [decide_eq_false hc] at hk ⊢
          exact hk
      obtain ⟨c0, c1⟩ := cfv_bd hR f v
      have hk := fun y10 y11 y12 => hk _ ⟨y10, y11, y12, rfl⟩
      have hall : ∀ c ∈ duesI r n ws done ++ d2.map (fun v => cfv n ws f v), 0 ≤ c ∧ c ≤ S := fun c hc => by
        rcases List.mem_append.mp hc with h | h
        · exact dues_pos hR done c h
        · obtain ⟨v', _, rfl⟩ := List.mem_map.mp h
          exact cfv_bd hR f v'
      have hlen : (duesI r n ws done ++ d2.map fun v => cfv n ws f v).length < 180 := by
        rw [List.length_append, dues_len, List.length_map]
        have : done.length * r.toNat ≤ 29 * 6 := Nat.mul_le_mul (by omega) (by omega)
        omega
      refine chance_args hR f v _ ?_ _
      simp only [List.map_append, List.map_cons, List.map_nil, ← List.append_assoc] at hk
      rw [← List.map_append] at hk
      generalize cfv n ws f v = c at *
      generalize (duesI r n ws done ++ d2.map fun v => cfv n ws f v) = cs at *
      have z1 : Sz 7 (Rat.divInt c S) := Sz.divInt (bd7 c0 (by omega)) (bd7 (by omega) s2) (by omega) (by decide) (by decide)
      have hSN : 0 < S * (fs.length : Int) := Int.mul_pos (by omega) (by omega)
      have hSN2 : S * (fs.length : Int) ≤ 127 * 30 := Int.mul_le_mul s2 (by omega) (by omega) (by omega)
      simp only [qD0, qD1, true_and, wpSs, wpS, wpE, wpX, wpO, wpC, wpI, ent, kt0, bindT, bindTs, tgsLen, wipeR, constD, owL, List.map_cons, List.map_nil, List.length_cons, List.length_nil, List.replicate, List.cons_append, List.nil_append, Nat.reduceSub, Nat.reduceAdd, List.getElem?_cons_zero, List.getElem?_cons_succ, List.getElem?_nil, List.set_cons_zero, List.set_cons_succ, opF, cmpF, Bi.fd, Option.map_some, if_true, if_false, Bool.true_eq_false, Bool.false_eq_true, reduceIte, Bool.not_true, Bool.not_false, w_some, w_none, w_fz0, w_fz1, w_t0, w_t1, w_t2, w_t3, w_t4, w_add, w_addL, w_addT, w_sub, w_subB, w_mul, w_mulL, w_mulT, w_mod, w_div, w_lt, w_le, w_gt, w_ge, w_is, w_isnt, w_n0, w_n1, w_n2, w_n3, w_n4, w_neg, w_atL, w_atT, w_lenL, w_lenT, w_tupL, w_tupT, w_lisL, w_lisT, w_abs, w_int, w_intB, w_gcd, w_min, w_max, w_seqL, w_seqT, w_augA, w_augS, w_augM, w_intQ, w_lstQ, w_rng1, w_rng2, w_zipL, w_zipT, w_enum, List.length_map]
      have hN : (0 : Int) < fs.length := by omega
      refine ⟨z1.den.mulOk hF.bd (by decide), _, _, 7, 12, rfl, Int.mul_pos (den_pos _) hN, z1.num, z1.den.mul hF.bd, by decide, by decide, ?_⟩
      rw [due_low (by omega) (by omega)]
      refine ⟨small1000 (by omega), ?_⟩
      simp only [true_and, wpSs, wpS, wpE, wpX, wpO, wpC, wpI, ent, kt0, bindT, bindTs, tgsLen, wipeR, constD, owL, List.map_cons, List.map_nil, List.length_cons, List.length_nil, List.replicate, List.cons_append, List.nil_append, Nat.reduceSub, Nat.reduceAdd, List.getElem?_cons_zero, List.getElem?_cons_succ, List.getElem?_nil, List.set_cons_zero, List.set_cons_succ, opF, cmpF, Bi.fd, Option.map_some, if_true, if_false, Bool.true_eq_false, Bool.false_eq_true, reduceIte, Bool.not_true, Bool.not_false, w_some, w_none, w_fz0, w_fz1, w_t0, w_t1, w_t2, w_t3, w_t4, w_add, w_addL, w_addT, w_sub, w_subB, w_mul, w_mulL, w_mulT, w_mod, w_div, w_lt, w_le, w_gt, w_ge, w_is, w_isnt, w_n0, w_n1, w_n2, w_n3, w_n4, w_neg, w_atL, w_atT, w_lenL, w_lenT, w_tupL, w_tupT, w_lisL, w_lisT, w_abs, w_int, w_intB, w_gcd, w_min, w_max, w_seqL, w_seqT, w_augA, w_augS, w_augM, w_intQ, w_lstQ, w_rng1, w_rng2, w_zipL, w_zipT, w_enum, qD0, qD1, atI_last1]
      have zd : Sz 20 (Rat.divInt c (S * fs.length)) := Sz.divInt (bd20 c0 (by omega)) (bd20 (by omega) (by omega)) (by omega) (by decide) (by decide)
      refine ⟨_, -Rat.divInt 1 (r * fs.length), 20, 20, rfl, zd, ze.neg, by decide, ?_⟩
      have le : Rat.divInt c (S * fs.length) + -Rat.divInt 1 (r * fs.length) = Rat.divInt (c * r - S) (S * fs.length * r) := less_eq (by omega) (by omega) (by omega)
      simp only [le, qD0, qD1, true_and, wpSs, wpS, wpE, wpX, wpO, wpC, wpI, ent, kt0, bindT, bindTs, tgsLen, wipeR, constD, owL, List.map_cons, List.map_nil, List.length_cons, List.length_nil, List.replicate, List.cons_append, List.nil_append, Nat.reduceSub, Nat.reduceAdd, List.getElem?_cons_zero, List.getElem?_cons_succ, List.getElem?_nil, List.set_cons_zero, List.set_cons_succ, opF, cmpF, Bi.fd, Option.map_some, if_true, if_false, Bool.true_eq_false, Bool.false_eq_true, reduceIte, Bool.not_true, Bool.not_false, w_some, w_none, w_fz0, w_fz1, w_t0, w_t1, w_t2, w_t3, w_t4, w_add, w_addL, w_addT, w_sub, w_subB, w_mul, w_mulL, w_mulT, w_mod, w_div, w_lt, w_le, w_gt, w_ge, w_is, w_isnt, w_n0, w_n1, w_n2, w_n3, w_n4, w_neg, w_atL, w_atT, w_lenL, w_lenT, w_tupL, w_tupT, w_lisL, w_lisT, w_abs, w_int, w_intB, w_gcd, w_min, w_max, w_seqL, w_seqT, w_augA, w_augS, w_augM, w_intQ, w_lstQ, w_rng1, w_rng2, w_zipL, w_zipT, w_enum]
      have cr0 : 0 ≤ c * r := Int.mul_nonneg c0 (by omega)
      have cr1 : c * r ≤ 127 * 6 := Int.mul_le_mul (by omega) r6 (by omega) (by omega)
      have bx : Bd 20 (c * r - S) := by
        show (c * r - S).natAbs < 2 ^ 20
        omega
      have zl : Sz 20 (Rat.divInt (c * r - S) (S * fs.length * r)) := Sz.divInt bx (bd20 (by omega) (by omega)) (by omega) (by decide) (by decide)
      have b2 : Bd 3 (2 : Int) := (show (2 : Int).natAbs < 2 ^ 3 by decide)
      refine ⟨b2.mulOk zl.den (by decide), _, _, 20, 23, rfl, by have := den_pos (Rat.divInt (c * r - S) (S * fs.length * r)); omega, ?_, b2.mul zl.den, by decide, by decide, ?_⟩
      · exact zl.num.le (by simp)
      rw [abs_low q0]
      obtain ⟨a0, a1⟩ := absI_bd hF hR cs hall (by omega)
      have zf : Sz 20 (Rat.divInt (absI r S cs) (2 * (S * fs.length * r))) := Sz.divInt (bd20 a0 a1) (bd20 (by omega) (by omega)) (by omega) (by decide) (by decide)
      have zx : Sz 20 (Rat.divInt ((c * r - S).natAbs : Int) (2 * (S * fs.length * r))) := Sz.divInt (bd20 (by omega) (by omega)) (bd20 (by omega) (by omega)) (by omega) (by decide) (by decide)
      refine ⟨_, _, 20, 20, rfl, zf, zx, by decide, ?_⟩
      simp only [divInt_add (show 2 * (S * (fs.length : Int) * r) ≠ 0 by omega)]
      rw [← absI_snoc]
      exact hk _ _ _
    · obtain ⟨y10, y11, y12, rfl⟩ := hI
      refine hk _ ⟨some (.fz (rowI f)), y10, y11, y12, ?_⟩
      have : duesI r n ws (done ++ [f]) = duesI r n ws done ++ (List.range r.toNat).map fun v => cfv n ws f v := by
        unfold duesI
        rw [List.flatMap_append]
        simp
      rw [this]
  · obtain ⟨y9, y10, y11, y12, rfl⟩ := hI
    exact fin _ _ _ _ _
end
theorem imp__law_fine {Γ : Gam} (g : Fine Γ) (as : List Sl) (P : D → Prop) (PE : Str → Prop) (h : φ__law_fine as P PE) : spW Γ d__law_fine as P PE := by
  obtain ⟨r, n, fs, rfl, hF, hP⟩ := h
  refine ⟨rfl, ?_⟩
  have n8 := hF.n8
  obtain ⟨f0, fr, hfs, hn⟩ := hF.head
  have hH : ∀ Q : D → Prop, dSub1 (.tuple (fs.map rowI)) (.int 0) Q = Q (rowI f0) := fun Q => by rw [hfs]; simp only [true_and, wpSs, wpS, wpE, wpX, wpO, wpC, wpI, ent, kt0, bindT, bindTs, tgsLen, wipeR, constD, owL, List.map_cons, List.map_nil, List.length_cons, List.length_nil, List.replicate, List.cons_append, List.nil_append, Nat.reduceSub, Nat.reduceAdd, List.getElem?_cons_zero, List.getElem?_cons_succ, List.getElem?_nil, List.set_cons_zero, List.set_cons_succ, opF, cmpF, Bi.fd, Option.map_some, if_true, if_false, Bool.true_eq_false, Bool.false_eq_true, reduceIte, Bool.not_true, Bool.not_false, w_some, w_none, w_fz0, w_fz1, w_t0, w_t1, w_t2, w_t3, w_t4, w_add, w_addL, w_addT, w_sub, w_subB, w_mul, w_mulL, w_mulT, w_mod, w_div, w_lt, w_le, w_gt, w_ge, w_is, w_isnt, w_n0, w_n1, w_n2, w_n3, w_n4, w_neg, w_atL, w_atT, w_lenL, w_lenT, w_tupL, w_tupT, w_lisL, w_lisT, w_abs, w_int, w_intB, w_gcd, w_min, w_max, w_seqL, w_seqT, w_augA, w_augS, w_augM, w_intQ, w_lstQ, w_rng1, w_rng2, w_zipL, w_zipT, w_enum, atI0]
  have hN : ∀ Q : D → Prop, dLen [rowI f0] Q = Q (.int n) := fun Q => by simp only [rowI, true_and, wpSs, wpS, wpE, wpX, wpO, wpC, wpI, ent, kt0, bindT, bindTs, tgsLen, wipeR, constD, owL, List.map_cons, List.map_nil, List.length_cons, List.length_nil, List.replicate, List.cons_append, List.nil_append, Nat.reduceSub, Nat.reduceAdd, List.getElem?_cons_zero, List.getElem?_cons_succ, List.getElem?_nil, List.set_cons_zero, List.set_cons_succ, opF, cmpF, Bi.fd, Option.map_some, if_true, if_false, Bool.true_eq_false, Bool.false_eq_true, reduceIte, Bool.not_true, Bool.not_false, w_some, w_none, w_fz0, w_fz1, w_t0, w_t1, w_t2, w_t3, w_t4, w_add, w_addL, w_addT, w_sub, w_subB, w_mul, w_mulL, w_mulT, w_mod, w_div, w_lt, w_le, w_gt, w_ge, w_is, w_isnt, w_n0, w_n1, w_n2, w_n3, w_n4, w_neg, w_atL, w_atT, w_lenL, w_lenT, w_tupL, w_tupT, w_lisL, w_lisT, w_abs, w_int, w_intB, w_gcd, w_min, w_max, w_seqL, w_seqT, w_augA, w_augS, w_augM, w_intQ, w_lstQ, w_rng1, w_rng2, w_zipL, w_zipT, w_enum, List.length_map, hn]
  have isf := fam_isFam hF
  have fok := fam_ok hF
  have fin := fine_mid (PE := PE) g hF hP
  have e : d__law_fine.body = .cons (stsGet 0 d__law_fine.body) (.cons (stsGet 1 d__law_fine.body) (.cons (stsGet 2 d__law_fine.body) (.cons (stsGet 3 d__law_fine.body) (stsDrop 4 d__law_fine.body)))) := rfl
  rw [e]
  generalize stsDrop 4 d__law_fine.body = T at fin ⊢
  have hU : ∀ (ts : Tgs) (ρ : Rho) (Q : Rho → Prop), bindT (.t ts) (famD r fs) ρ Q = bindT (.t ts) (.tuple [.int r, .tuple (fs.map rowI)]) ρ Q := fun _ _ _ => rfl
  simp only [stsGet, d__law_fine, wpSs, wpS, wpE, ent, kt0, List.map_cons, List.map_nil, List.length_cons, List.length_nil, List.replicate, List.cons_append, List.nil_append, Nat.reduceSub, Nat.reduceAdd, List.getElem?_cons_zero, List.getElem?_cons_succ, hU]
  simp only [true_and, wpSs, wpS, wpE, wpX, wpO, wpC, wpI, ent, kt0, bindT, bindTs, tgsLen, wipeR, constD, owL, List.map_cons, List.map_nil, List.length_cons, List.length_nil, List.replicate, List.cons_append, List.nil_append, Nat.reduceSub, Nat.reduceAdd, List.getElem?_cons_zero, List.getElem?_cons_succ, List.getElem?_nil, List.set_cons_zero, List.set_cons_succ, opF, cmpF, Bi.fd, Option.map_some, if_true, if_false, Bool.true_eq_false, Bool.false_eq_true, reduceIte, Bool.not_true, Bool.not_false, w_some, w_none, w_fz0, w_fz1, w_t0, w_t1, w_t2, w_t3, w_t4, w_add, w_addL, w_addT, w_sub, w_subB, w_mul, w_mulL, w_mulT, w_mod, w_div, w_lt, w_le, w_gt, w_ge, w_is, w_isnt, w_n0, w_n1, w_n2, w_n3, w_n4, w_neg, w_atL, w_atT, w_lenL, w_lenT, w_tupL, w_tupT, w_lisL, w_lisT, w_abs, w_int, w_intB, w_gcd, w_min, w_max, w_seqL, w_seqT, w_augA, w_augS, w_augM, w_intQ, w_lstQ, w_rng1, w_rng2, w_zipL, w_zipT, w_enum, hH, hN, g.cf, g.iu, g.lu, g.ii, g.li, g.pb, g.me, g.lm]
  refine ⟨_, rfl, fok, fun _ => ?_, fun h => by rw [isf] at h; cases h⟩
  simp only [true_and, wpSs, wpS, wpE, wpX, wpO, wpC, wpI, ent, kt0, bindT, bindTs, tgsLen, wipeR, constD, owL, List.map_cons, List.map_nil, List.length_cons, List.length_nil, List.replicate, List.cons_append, List.nil_append, Nat.reduceSub, Nat.reduceAdd, List.getElem?_cons_zero, List.getElem?_cons_succ, List.getElem?_nil, List.set_cons_zero, List.set_cons_succ, opF, cmpF, Bi.fd, Option.map_some, if_true, if_false, Bool.true_eq_false, Bool.false_eq_true, reduceIte, Bool.not_true, Bool.not_false, w_some, w_none, w_fz0, w_fz1, w_t0, w_t1, w_t2, w_t3, w_t4, w_add, w_addL, w_addT, w_sub, w_subB, w_mul, w_mulL, w_mulT, w_mod, w_div, w_lt, w_le, w_gt, w_ge, w_is, w_isnt, w_n0, w_n1, w_n2, w_n3, w_n4, w_neg, w_atL, w_atT, w_lenL, w_lenT, w_tupL, w_tupT, w_lisL, w_lisT, w_abs, w_int, w_intB, w_gcd, w_min, w_max, w_seqL, w_seqT, w_augA, w_augS, w_augM, w_intQ, w_lstQ, w_rng1, w_rng2, w_zipL, w_zipT, w_enum]
  refine ⟨r, n, fs, rfl, hF, r, n, fs, rfl, hF, dNeB ?_⟩
  rw [decide_eq_true rfl]
  simp only [true_and, wpSs, wpS, wpE, wpX, wpO, wpC, wpI, ent, kt0, bindT, bindTs, tgsLen, wipeR, constD, owL, List.map_cons, List.map_nil, List.length_cons, List.length_nil, List.replicate, List.cons_append, List.nil_append, Nat.reduceSub, Nat.reduceAdd, List.getElem?_cons_zero, List.getElem?_cons_succ, List.getElem?_nil, List.set_cons_zero, List.set_cons_succ, opF, cmpF, Bi.fd, Option.map_some, if_true, if_false, Bool.true_eq_false, Bool.false_eq_true, reduceIte, Bool.not_true, Bool.not_false, w_some, w_none, w_fz0, w_fz1, w_t0, w_t1, w_t2, w_t3, w_t4, w_add, w_addL, w_addT, w_sub, w_subB, w_mul, w_mulL, w_mulT, w_mod, w_div, w_lt, w_le, w_gt, w_ge, w_is, w_isnt, w_n0, w_n1, w_n2, w_n3, w_n4, w_neg, w_atL, w_atT, w_lenL, w_lenT, w_tupL, w_tupT, w_lisL, w_lisT, w_abs, w_int, w_intB, w_gcd, w_min, w_max, w_seqL, w_seqT, w_augA, w_augS, w_augM, w_intQ, w_lstQ, w_rng1, w_rng2, w_zipL, w_zipT, w_enum]
  refine ⟨r, n, fs, rfl, hF, r, n, fs, rfl, hF, dNeB ?_⟩
  rw [decide_eq_true rfl]
  simp only [true_and, wpSs, wpS, wpE, wpX, wpO, wpC, wpI, ent, kt0, bindT, bindTs, tgsLen, wipeR, constD, owL, List.map_cons, List.map_nil, List.length_cons, List.length_nil, List.replicate, List.cons_append, List.nil_append, Nat.reduceSub, Nat.reduceAdd, List.getElem?_cons_zero, List.getElem?_cons_succ, List.getElem?_nil, List.set_cons_zero, List.set_cons_succ, opF, cmpF, Bi.fd, Option.map_some, if_true, if_false, Bool.true_eq_false, Bool.false_eq_true, reduceIte, Bool.not_true, Bool.not_false, w_some, w_none, w_fz0, w_fz1, w_t0, w_t1, w_t2, w_t3, w_t4, w_add, w_addL, w_addT, w_sub, w_subB, w_mul, w_mulL, w_mulT, w_mod, w_div, w_lt, w_le, w_gt, w_ge, w_is, w_isnt, w_n0, w_n1, w_n2, w_n3, w_n4, w_neg, w_atL, w_atT, w_lenL, w_lenT, w_tupL, w_tupT, w_lisL, w_lisT, w_abs, w_int, w_intB, w_gcd, w_min, w_max, w_seqL, w_seqT, w_augA, w_augS, w_augM, w_intQ, w_lstQ, w_rng1, w_rng2, w_zipL, w_zipT, w_enum]
  refine ⟨n, rfl, by omega, ?_⟩
  simp only [true_and, wpSs, wpS, wpE, wpX, wpO, wpC, wpI, ent, kt0, bindT, bindTs, tgsLen, wipeR, constD, owL, List.map_cons, List.map_nil, List.length_cons, List.length_nil, List.replicate, List.cons_append, List.nil_append, Nat.reduceSub, Nat.reduceAdd, List.getElem?_cons_zero, List.getElem?_cons_succ, List.getElem?_nil, List.set_cons_zero, List.set_cons_succ, opF, cmpF, Bi.fd, Option.map_some, if_true, if_false, Bool.true_eq_false, Bool.false_eq_true, reduceIte, Bool.not_true, Bool.not_false, w_some, w_none, w_fz0, w_fz1, w_t0, w_t1, w_t2, w_t3, w_t4, w_add, w_addL, w_addT, w_sub, w_subB, w_mul, w_mulL, w_mulT, w_mod, w_div, w_lt, w_le, w_gt, w_ge, w_is, w_isnt, w_n0, w_n1, w_n2, w_n3, w_n4, w_neg, w_atL, w_atT, w_lenL, w_lenT, w_tupL, w_tupT, w_lisL, w_lisT, w_abs, w_int, w_intB, w_gcd, w_min, w_max, w_seqL, w_seqT, w_augA, w_augS, w_augM, w_intQ, w_lstQ, w_rng1, w_rng2, w_zipL, w_zipT, w_enum]
  refine ⟨by rw [List.length_map]; exact pairsA_len (by omega), ?_⟩
  refine foldW_filter (fun _ => false) (fun _ => PyData.int 1) (fun p acc kk hp hk => ?_) ?_
  · rw [mem_pairsA] at hp
    simp only [pairD, true_and, wpSs, wpS, wpE, wpX, wpO, wpC, wpI, ent, kt0, bindT, bindTs, tgsLen, wipeR, constD, owL, List.map_cons, List.map_nil, List.length_cons, List.length_nil, List.replicate, List.cons_append, List.nil_append, Nat.reduceSub, Nat.reduceAdd, List.getElem?_cons_zero, List.getElem?_cons_succ, List.getElem?_nil, List.set_cons_zero, List.set_cons_succ, opF, cmpF, Bi.fd, Option.map_some, if_true, if_false, Bool.true_eq_false, Bool.false_eq_true, reduceIte, Bool.not_true, Bool.not_false, w_some, w_none, w_fz0, w_fz1, w_t0, w_t1, w_t2, w_t3, w_t4, w_add, w_addL, w_addT, w_sub, w_subB, w_mul, w_mulL, w_mulT, w_mod, w_div, w_lt, w_le, w_gt, w_ge, w_is, w_isnt, w_n0, w_n1, w_n2, w_n3, w_n4, w_neg, w_atL, w_atT, w_lenL, w_lenT, w_tupL, w_tupT, w_lisL, w_lisT, w_abs, w_int, w_intB, w_gcd, w_min, w_max, w_seqL, w_seqT, w_augA, w_augS, w_augM, w_intQ, w_lstQ, w_rng1, w_rng2, w_zipL, w_zipT, w_enum]
    refine ⟨r, n, fs, p.1, p.2, rfl, hF, hp.1, hp.2, r, n, fs, p.1, p.2, rfl, hF, hp.1, hp.2, dNeQ ?_⟩
    rw [decide_eq_true rfl]
    exact hk
  rw [show ((pairsA n).filter fun _ => false) = [] by simp, List.map_nil]
  refine dNe_nil ?_
  simp only [true_and, wpSs, wpS, wpE, wpX, wpO, wpC, wpI, ent, kt0, bindT, bindTs, tgsLen, wipeR, constD, owL, List.map_cons, List.map_nil, List.length_cons, List.length_nil, List.replicate, List.cons_append, List.nil_append, Nat.reduceSub, Nat.reduceAdd, List.getElem?_cons_zero, List.getElem?_cons_succ, List.getElem?_nil, List.set_cons_zero, List.set_cons_succ, opF, cmpF, Bi.fd, Option.map_some, if_true, if_false, Bool.true_eq_false, Bool.false_eq_true, reduceIte, Bool.not_true, Bool.not_false, w_some, w_none, w_fz0, w_fz1, w_t0, w_t1, w_t2, w_t3, w_t4, w_add, w_addL, w_addT, w_sub, w_subB, w_mul, w_mulL, w_mulT, w_mod, w_div, w_lt, w_le, w_gt, w_ge, w_is, w_isnt, w_n0, w_n1, w_n2, w_n3, w_n4, w_neg, w_atL, w_atT, w_lenL, w_lenT, w_tupL, w_tupT, w_lisL, w_lisT, w_abs, w_int, w_intB, w_gcd, w_min, w_max, w_seqL, w_seqT, w_augA, w_augS, w_augM, w_intQ, w_lstQ, w_rng1, w_rng2, w_zipL, w_zipT, w_enum]
  refine ⟨r, n, fs, rfl, hF, ?_⟩
  cases hi : indB r n fs with
  | false =>
    simp only [true_and, wpSs, wpS, wpE, wpX, wpO, wpC, wpI, ent, kt0, bindT, bindTs, tgsLen, wipeR, constD, owL, List.map_cons, List.map_nil, List.length_cons, List.length_nil, List.replicate, List.cons_append, List.nil_append, Nat.reduceSub, Nat.reduceAdd, List.getElem?_cons_zero, List.getElem?_cons_succ, List.getElem?_nil, List.set_cons_zero, List.set_cons_succ, opF, cmpF, Bi.fd, Option.map_some, if_true, if_false, Bool.true_eq_false, Bool.false_eq_true, reduceIte, Bool.not_true, Bool.not_false, w_some, w_none, w_fz0, w_fz1, w_t0, w_t1, w_t2, w_t3, w_t4, w_add, w_addL, w_addT, w_sub, w_subB, w_mul, w_mulL, w_mulT, w_mod, w_div, w_lt, w_le, w_gt, w_ge, w_is, w_isnt, w_n0, w_n1, w_n2, w_n3, w_n4, w_neg, w_atL, w_atT, w_lenL, w_lenT, w_tupL, w_tupT, w_lisL, w_lisT, w_abs, w_int, w_intB, w_gcd, w_min, w_max, w_seqL, w_seqT, w_augA, w_augS, w_augM, w_intQ, w_lstQ, w_rng1, w_rng2, w_zipL, w_zipT, w_enum]
    exact fin
  | true =>
    simp only [true_and, wpSs, wpS, wpE, wpX, wpO, wpC, wpI, ent, kt0, bindT, bindTs, tgsLen, wipeR, constD, owL, List.map_cons, List.map_nil, List.length_cons, List.length_nil, List.replicate, List.cons_append, List.nil_append, Nat.reduceSub, Nat.reduceAdd, List.getElem?_cons_zero, List.getElem?_cons_succ, List.getElem?_nil, List.set_cons_zero, List.set_cons_succ, opF, cmpF, Bi.fd, Option.map_some, if_true, if_false, Bool.true_eq_false, Bool.false_eq_true, reduceIte, Bool.not_true, Bool.not_false, w_some, w_none, w_fz0, w_fz1, w_t0, w_t1, w_t2, w_t3, w_t4, w_add, w_addL, w_addT, w_sub, w_subB, w_mul, w_mulL, w_mulT, w_mod, w_div, w_lt, w_le, w_gt, w_ge, w_is, w_isnt, w_n0, w_n1, w_n2, w_n3, w_n4, w_neg, w_atL, w_atT, w_lenL, w_lenT, w_tupL, w_tupT, w_lisL, w_lisT, w_abs, w_int, w_intB, w_gcd, w_min, w_max, w_seqL, w_seqT, w_augA, w_augS, w_augM, w_intQ, w_lstQ, w_rng1, w_rng2, w_zipL, w_zipT, w_enum]
    refine ⟨r, n, fs, rfl, hF, ?_⟩
    rw [ind_univ hF hi]
    simp only [true_and, wpSs, wpS, wpE, wpX, wpO, wpC, wpI, ent, kt0, bindT, bindTs, tgsLen, wipeR, constD, owL, List.map_cons, List.map_nil, List.length_cons, List.length_nil, List.replicate, List.cons_append, List.nil_append, Nat.reduceSub, Nat.reduceAdd, List.getElem?_cons_zero, List.getElem?_cons_succ, List.getElem?_nil, List.set_cons_zero, List.set_cons_succ, opF, cmpF, Bi.fd, Option.map_some, if_true, if_false, Bool.true_eq_false, Bool.false_eq_true, reduceIte, Bool.not_true, Bool.not_false, w_some, w_none, w_fz0, w_fz1, w_t0, w_t1, w_t2, w_t3, w_t4, w_add, w_addL, w_addT, w_sub, w_subB, w_mul, w_mulL, w_mulT, w_mod, w_div, w_lt, w_le, w_gt, w_ge, w_is, w_isnt, w_n0, w_n1, w_n2, w_n3, w_n4, w_neg, w_atL, w_atT, w_lenL, w_lenT, w_tupL, w_tupT, w_lisL, w_lisT, w_abs, w_int, w_intB, w_gcd, w_min, w_max, w_seqL, w_seqT, w_augA, w_augS, w_augM, w_intQ, w_lstQ, w_rng1, w_rng2, w_zipL, w_zipT, w_enum]
    exact fin
end DL

set_option Elab.async false
set_option linter.all false
set_option maxRecDepth 100000
set_option maxHeartbeats 16000000
namespace DL
open PySem PySem.Spec PyProof.Rows L2
/-! ### the law -/
theorem mem_first (val : Nat → Int) : ∀ n i, i < n → val i ∈ firstMet val n := by
  intro n
  induction n with
  | zero => intro i h; omega
  | succ n ih =>
    intro i h
    rw [firstMet_succ]
    unfold step_dedup
    by_cases hi : i < n
    · have := ih i hi
      split
      · exact this
      · exact List.mem_append_left _ this
    · have e : i = n := by omega
      subst e
      split
      · rename_i hc
        obtain ⟨y, hy, he⟩ := List.any_eq_true.mp hc
        have := eq_of_beq he
        rw [← this]
        exact hy
      · exact List.mem_append_right _ List.mem_cons_self
/-- one length: all are equal -/
theorem dst_one {ns : List Int} (h : dstI ns = 1) : ∀ x ∈ ns, ∀ y ∈ ns, x = y := by
  have hl : (firstMet (fun i => ns.getD i 0) ns.length).length = 1 := by
    unfold dstI at h
    omega
  obtain ⟨z, hz⟩ := List.length_eq_one_iff.mp hl
  have key : ∀ x ∈ ns, x = z := fun x hx => by
    obtain ⟨i, hi, rfl⟩ := List.getElem_of_mem hx
    have := mem_first (fun i => ns.getD i 0) ns.length i hi
    rw [hz] at this
    have := List.mem_singleton.mp this
    rw [← this]
    simp [List.getD_eq_getElem?_getD, List.getElem?_eq_getElem hi]
  intro x hx y hy
  rw [key x hx, key y hy]
theorem lines_fam {p : Nat} (h : isP p = true) (h6 : p ≤ 6) : Fam p p (linesF p) ∧ indB p p (linesF p) = true := by
  have : p = 2 ∨ p = 3 ∨ p = 5 := by
    unfold isP at h
    simp only [Bool.or_eq_true, decide_eq_true_eq] at h
    omega
  have key : ∀ q : Nat, (decide (1 ≤ (linesF q).length) && (decide ((linesF q).length ≤ 30) && ((linesF q).all (fun f => decide (f.length = q) && f.all fun x => decide (0 ≤ x) && decide (x < (q : Int))) && indB q q (linesF q)))) = true → 1 ≤ q → q ≤ 6 → Fam q q (linesF q) ∧ indB q q (linesF q) = true := fun q hq h1 h2 => by
    simp only [Bool.and_eq_true, decide_eq_true_eq, List.all_eq_true] at hq
    obtain ⟨a1, a2, a3, a4⟩ := hq
    exact ⟨⟨by omega, by omega, a1, a2, h1, by omega, fun f hf => (a3 f hf).1, fun f hf => (a3 f hf).2⟩, a4⟩
  rcases this with rfl | rfl | rfl
  · exact key 2 (by decide +kernel) (by decide) (by decide)
  · exact key 3 (by decide +kernel) (by decide) (by decide)
  · exact key 5 (by decide +kernel) (by decide) (by decide)
def okB : D → Bool
  | .tuple [_, .tuple fs] => decide (fs.length ≤ 1000) && fs.all fun f => decide ((tupOf f).length ≤ 1000)
  | _ => true
theorem okB_ok {d : D} (h : okB d = true) : famOk d := by
  intro x fs e
  subst e
  simp only [okB, Bool.and_eq_true, decide_eq_true_eq, List.all_eq_true] at h
  exact ⟨small h.1, fun f hf ds hds => by
    have := h.2 f hf
    rw [hds] at this
    exact small this⟩
theorem paired_rows {α : Type} {R : List Int → Prop} {l : List α} {ys : List D} (h : Paired (fun _ y => ∃ f, y = rowI f ∧ R f) l ys) : ∃ fs : List (List Int), ys = fs.map rowI ∧ fs.length = l.length ∧ ∀ f ∈ fs, R f := by
  induction h with
  | nil => exact ⟨[], rfl, rfl, nofun⟩
  | cons h1 _ ih =>
    obtain ⟨i, rfl, hi⟩ := h1
    obtain ⟨ws, rfl, h2, h3⟩ := ih
    exact ⟨i :: ws, rfl, by simp [h2], fun w hw => by
      rcases List.mem_cons.mp hw with rfl | hw
      · exact hi
      · exact h3 w hw⟩
theorem lines_pairs (p : Nat) : linesF p = (pairsA p).map fun q => (List.range p).map fun (k : Nat) => ((q.1 : Int) * (k : Int) + (q.2 : Int)).fmod p := by
  unfold linesF pairsA
  rw [List.map_flatMap]
  congr 1
  funext a
  rw [List.map_map]
  rfl
theorem dNe_fam {r : Int} {fs : List (List Int)} {Q : D → Prop} (h : Q (.bool false)) : dNe (famD r fs) (famD r fs) Q := by
  have e : famD r fs = Td.d ((r, ⟨fs.map Tu.mk⟩) : Int × Tu (Tu Int)) := by
    show _ = PyData.tuple [.int r, .tuple ((fs.map Tu.mk).map Td.d)]
    rw [List.map_map]
    rfl
  rw [e]
  exact dNeT (by rw [decide_eq_true rfl]; exact h)
theorem cut_row (f : List Int) (c : Nat) (Q : D → Prop) : dCut (rowI f) none (some (c : Int)) Q = Q (rowI (f.take c)) := by
  unfold rowI
  show Q (.tuple (cutL _ _ _)) = _
  have : cutL (f.map PyData.int) none (some (c : Int)) = (f.take c).map PyData.int := by
    unfold cutL
    rw [HT.sIx_none, HT.sIx_nat, List.drop_zero, Nat.sub_zero, ← List.map_take]
    congr 1
    rw [List.length_map]
    rcases Nat.le_total c f.length with h | h
    · rw [Nat.min_eq_left h]
    · rw [Nat.min_eq_right h, List.take_of_length_le h, List.take_of_length_le (Nat.le_refl _)]
  rw [this]
theorem dIn_p {p : Nat} {Q : D → Prop} (h : Q (.bool (isP p))) : dIn false (.int p) (.list [.int 2, .int 3, .int 5]) Q := by
  refine ⟨td_shp (p : Int) (by decide), rfl, ?_⟩
  have e : ([.int 2, .int 3, .int 5] : List D).any (fun z => PyData.eqv z (.int p)) = isP p := by
    have e1 : ∀ i : Int, PyData.eqv (.int i) (.int (p : Int)) = decide ((p : Int) = i) := fun i => by
      rw [show PyData.eqv (.int i) (.int (p : Int)) = decide (i = (p : Int)) from td_dec (α := Int) i p]
      exact decide_eq_decide.mpr ⟨Eq.symm, Eq.symm⟩
    simp only [List.any_cons, List.any_nil, e1, Bool.or_false]
    rfl
  show Q (.bool (if false = true then _ else _))
  rw [if_neg Bool.false_ne_true, e]
  exact h
structure LawH (Γ : Gam) : Prop where
  tk : Γ.Φ "_law_take" = φTake
  fi : Γ.Φ "_law_fine" = φ__law_fine
  li : Γ.Φ "_law_lines" = φ__law_lines
  pb : Γ.Φ "_law_pairs_below" = φ__law_pairs_below
  ind : Γ.Φ "_law_independent" = φ__law_independent
  rf : Γ.Φ "_law_refused" = φ__law_refused
  mf : Γ.gl.lookup ("MAX_FUNCTIONS" : Str) = some (.int 30)
section
variable {Γ : Gam} {P : D → Prop} {PE : Str → Prop}
def wrongL : List D := [.tuple [.int 0, .tuple [.tuple [.int 0]]], .tuple [.int 7, .tuple [.tuple [.int 0]]], .tuple [.int 1, .tuple []], .tuple [.int 1, .tuple [.tuple []]], .tuple [.int 1, .tuple [.tuple [.int 1]]],
  .tuple [.int 1, .tuple [.tuple [.int 0], .tuple [.int 0, .int 0]]], .tuple [.int 1, .tuple (repD 31 [.tuple [.int 0]])], .tuple [.int 1, .tuple [.tuple (repD 9 [.int 0])]], .none, .tuple [.int 1, .list [.tuple [.int 0]]],
  .tuple [.bool true, .tuple [.tuple [.int 0]]], .tuple [.int 1, .tuple [.tuple [.bool false]]], .tuple [.int 1]]
theorem wrong_all : (wrongL.all fun d => !isFam d && okB d) = true := by decide +kernel
theorem large_fam : (isFam (.tuple [.int 6, .tuple (repD 30 [.tuple (repD 8 [.int 5])])]) && okB (.tuple [.int 6, .tuple (repD 30 [.tuple (repD 8 [.int 5])])])) = true := by decide +kernel
/-- the wrong ones, and a large one -/
theorem law_end (g : LawH Γ) (hP : P (.bool true)) (y2 y3 y4 y5 y6 y7 y8 y9 y10 y11 y12 : Option Sl) : wpSs Γ (stsDrop 8 d_law.body) [none, some .dr, y2, y3, y4, y5, y6, y7, y8, y9, y10, y11, y12, none, none, none] (kt0 P PE) := by
  simp only [stsDrop, d_law, true_and, wpSs, wpS, wpE, wpX, wpO, wpC, wpI, ent, kt0, bindT, bindTs, tgsLen, wipeR, constD, owL, List.map_cons, List.map_nil, List.length_cons, List.length_nil, List.replicate, List.cons_append, List.nil_append, Nat.reduceSub, Nat.reduceAdd, List.getElem?_cons_zero, List.getElem?_cons_succ, List.getElem?_nil, List.set_cons_zero, List.set_cons_succ, opF, cmpF, Bi.fd, Option.map_some, if_true, if_false, Bool.true_eq_false, Bool.false_eq_true, reduceIte, Bool.not_true, Bool.not_false, w_some, w_none, w_fz0, w_fz1, w_t0, w_t1, w_t2, w_t3, w_t4, w_add, w_addL, w_addT, w_sub, w_subB, w_mul, w_mulL, w_mulT, w_mod, w_div, w_lt, w_le, w_gt, w_ge, w_is, w_isnt, w_n0, w_n1, w_n2, w_n3, w_n4, w_neg, w_atL, w_atT, w_lenL, w_lenT, w_tupL, w_tupT, w_lisL, w_lisT, w_abs, w_int, w_intB, w_gcd, w_min, w_max, w_seqL, w_seqT, w_augA, w_augS, w_augM, w_intQ, w_lstQ, w_rng1, w_rng2, w_zipL, w_zipT, w_enum, g.rf]
  refine ⟨by simp, by decide, by decide, by decide, by simp, by decide, by decide, by decide, by decide, ?_⟩
  show foldW _ wrongL [] _
  rw [show foldW _ wrongL [] _ = foldW _ (wrongL.map id) [] _ by rw [List.map_id]]
  refine foldW_filter (fun _ => false) id (fun d acc kk hd hk => ?_) ?_
  · have h := List.all_eq_true.mp wrong_all d hd
    simp only [Bool.and_eq_true, Bool.not_eq_true'] at h
    refine ⟨d, rfl, okB_ok h.2, ?_⟩
    rw [h.1]
    exact hk
  · rw [show (wrongL.filter fun _ => false) = [] by simp, List.map_nil]
    refine dEq_nil ?_
    simp only [true_and, wpSs, wpS, wpE, wpX, wpO, wpC, wpI, ent, kt0, bindT, bindTs, tgsLen, wipeR, constD, owL, List.map_cons, List.map_nil, List.length_cons, List.length_nil, List.replicate, List.cons_append, List.nil_append, Nat.reduceSub, Nat.reduceAdd, List.getElem?_cons_zero, List.getElem?_cons_succ, List.getElem?_nil, List.set_cons_zero, List.set_cons_succ, opF, cmpF, Bi.fd, Option.map_some, if_true, if_false, Bool.true_eq_false, Bool.false_eq_true, reduceIte, Bool.not_true, Bool.not_false, w_some, w_none, w_fz0, w_fz1, w_t0, w_t1, w_t2, w_t3, w_t4, w_add, w_addL, w_addT, w_sub, w_subB, w_mul, w_mulL, w_mulT, w_mod, w_div, w_lt, w_le, w_gt, w_ge, w_is, w_isnt, w_n0, w_n1, w_n2, w_n3, w_n4, w_neg, w_atL, w_atT, w_lenL, w_lenT, w_tupL, w_tupT, w_lisL, w_lisT, w_abs, w_int, w_intB, w_gcd, w_min, w_max, w_seqL, w_seqT, w_augA, w_augS, w_augM, w_intQ, w_lstQ, w_rng1, w_rng2, w_zipL, w_zipT, w_enum]
    obtain ⟨l1, l2⟩ := Bool.and_eq_true_iff.mp large_fam
    refine ⟨by simp, by decide, by decide, by decide, by simp, by decide, by decide, by decide, _, rfl, okB_ok l2, ?_⟩
    rw [l1]
    exact hP
end
end DL

set_option Elab.async false
set_option linter.all false
set_option maxRecDepth 100000
set_option maxHeartbeats 2000000
namespace DL
open PySem PySem.Spec PyProof.Rows L2
theorem if_no {A B : Prop} (h : B) : (optQ (truD (.bool false)) fun c => if c = true then A else B) := h
theorem if_yes {A B : Prop} (h : A) : (optQ (truD (.bool true)) fun c => if c = true then A else B) := h
theorem dNeB_same {a : Bool} {Q : D → Prop} (h : Q (.bool false)) : dNe (.bool a) (.bool a) Q := dNeB (by rw [decide_eq_true (rfl : a = a)]; exact h)
section
variable {Γ : Gam} {P : D → Prop} {PE : Str → Prop}
/-- the families of lines -/
theorem law_lines (g : LawH Γ) (hP : P (.bool true)) (y2 y3 y4 y8 y9 y10 y11 : Option Sl) (p : Nat) (p1 : 1 ≤ p) (p6 : p ≤ 6) : wpSs Γ (stsDrop 6 d_law.body) [none, some .dr, y2, y3, y4, some (.fz (.int p)), some (.fz (if isP p = true then famD p (linesF p) else .none)), none, y8, y9, y10, y11, none, none, none, none] (kt0 P PE) := by
  have e : stsDrop 6 d_law.body = .cons (stsGet 6 d_law.body) (.cons (stsGet 7 d_law.body) (stsDrop 8 d_law.body)) := rfl
  have fin := law_end (PE := PE) g hP y2 y3 y4
  rw [e]
  generalize stsDrop 8 d_law.body = T at fin ⊢
  cases hp : isP p with
  | false =>
    rw [if_neg Bool.false_ne_true]
    simp only [stsGet, d_law, true_and, wpSs, wpS, wpE, wpX, wpO, wpC, wpI, ent, kt0, bindT, bindTs, tgsLen, wipeR, constD, owL, List.map_cons, List.map_nil, List.length_cons, List.length_nil, List.replicate, List.cons_append, List.nil_append, Nat.reduceSub, Nat.reduceAdd, List.getElem?_cons_zero, List.getElem?_cons_succ, List.getElem?_nil, List.set_cons_zero, List.set_cons_succ, opF, cmpF, Bi.fd, Option.map_some, if_true, if_false, Bool.true_eq_false, Bool.false_eq_true, reduceIte, Bool.not_true, Bool.not_false, w_some, w_none, w_fz0, w_fz1, w_t0, w_t1, w_t2, w_t3, w_t4, w_add, w_addL, w_addT, w_sub, w_subB, w_mul, w_mulL, w_mulT, w_mod, w_div, w_lt, w_le, w_gt, w_ge, w_is, w_isnt, w_n0, w_n1, w_n2, w_n3, w_n4, w_neg, w_atL, w_atT, w_lenL, w_lenT, w_tupL, w_tupT, w_lisL, w_lisT, w_abs, w_int, w_intB, w_gcd, w_min, w_max, w_seqL, w_seqT, w_augA, w_augS, w_augM, w_intQ, w_lstQ, w_rng1, w_rng2, w_zipL, w_zipT, w_enum]
    refine dIn_p ?_
    rw [hp]
    refine dNeB_same (if_no ?_)
    exact fin _ _ _ _ _ _ _ _
  | true =>
    obtain ⟨hF, hi⟩ := lines_fam hp p6
    rw [if_pos rfl]
    have isn : isNone (famD p (linesF p)) = false := rfl
    have hL : ∀ Q : D → Prop, dSub1 (famD p (linesF p)) (.int 1) Q = Q (.tuple ((linesF p).map rowI)) := fun Q => by simp only [famD, true_and, wpSs, wpS, wpE, wpX, wpO, wpC, wpI, ent, kt0, bindT, bindTs, tgsLen, wipeR, constD, owL, List.map_cons, List.map_nil, List.length_cons, List.length_nil, List.replicate, List.cons_append, List.nil_append, Nat.reduceSub, Nat.reduceAdd, List.getElem?_cons_zero, List.getElem?_cons_succ, List.getElem?_nil, List.set_cons_zero, List.set_cons_succ, opF, cmpF, Bi.fd, Option.map_some, if_true, if_false, Bool.true_eq_false, Bool.false_eq_true, reduceIte, Bool.not_true, Bool.not_false, w_some, w_none, w_fz0, w_fz1, w_t0, w_t1, w_t2, w_t3, w_t4, w_add, w_addL, w_addT, w_sub, w_subB, w_mul, w_mulL, w_mulT, w_mod, w_div, w_lt, w_le, w_gt, w_ge, w_is, w_isnt, w_n0, w_n1, w_n2, w_n3, w_n4, w_neg, w_atL, w_atT, w_lenL, w_lenT, w_tupL, w_tupT, w_lisL, w_lisT, w_abs, w_int, w_intB, w_gcd, w_min, w_max, w_seqL, w_seqT, w_augA, w_augS, w_augM, w_intQ, w_lstQ, w_rng1, w_rng2, w_zipL, w_zipT, w_enum, atI1]
    simp only [stsGet, d_law, true_and, wpSs, wpS, wpE, wpX, wpO, wpC, wpI, ent, kt0, bindT, bindTs, tgsLen, wipeR, constD, owL, List.map_cons, List.map_nil, List.length_cons, List.length_nil, List.replicate, List.cons_append, List.nil_append, Nat.reduceSub, Nat.reduceAdd, List.getElem?_cons_zero, List.getElem?_cons_succ, List.getElem?_nil, List.set_cons_zero, List.set_cons_succ, opF, cmpF, Bi.fd, Option.map_some, if_true, if_false, Bool.true_eq_false, Bool.false_eq_true, reduceIte, Bool.not_true, Bool.not_false, w_some, w_none, w_fz0, w_fz1, w_t0, w_t1, w_t2, w_t3, w_t4, w_add, w_addL, w_addT, w_sub, w_subB, w_mul, w_mulL, w_mulT, w_mod, w_div, w_lt, w_le, w_gt, w_ge, w_is, w_isnt, w_n0, w_n1, w_n2, w_n3, w_n4, w_neg, w_atL, w_atT, w_lenL, w_lenT, w_tupL, w_tupT, w_lisL, w_lisT, w_abs, w_int, w_intB, w_gcd, w_min, w_max, w_seqL, w_seqT, w_augA, w_augS, w_augM, w_intQ, w_lstQ, w_rng1, w_rng2, w_zipL, w_zipT, w_enum, isn, g.pb, g.ind, g.fi, g.tk, hL, List.length_map]
    refine dIn_p ?_
    rw [hp]
    refine dNeB_same (if_no ⟨p, rfl, by omega, ?_⟩)
    refine seqOf_seqD (b := true) (forW_inv (I := fun done ρ => ∃ y8 y9, ρ = [none, some .dr, y2, y3, y4, some (.fz (.int p)), some (.fz (famD p (linesF p))), some (.ow (.list ((done.map fun q => (List.range p).map fun (k : Nat) => ((q.1 : Int) * (k : Int) + (q.2 : Int)).fmod p).map rowI))), y8, y9, y10, y11, none, none, none, none]) ⟨y8, y9, rfl⟩ (fun done q rest ρ kk el hI hk => ?_) (fun ρ hI => ?_))
    · obtain ⟨y8, y9, rfl⟩ := hI
      have hq := mem_pairsA.mp (show q ∈ pairsA p by rw [el]; simp)
      simp only [pairD, true_and, wpSs, wpS, wpE, wpX, wpO, wpC, wpI, ent, kt0, bindT, bindTs, tgsLen, wipeR, constD, owL, List.map_cons, List.map_nil, List.length_cons, List.length_nil, List.replicate, List.cons_append, List.nil_append, Nat.reduceSub, Nat.reduceAdd, List.getElem?_cons_zero, List.getElem?_cons_succ, List.getElem?_nil, List.set_cons_zero, List.set_cons_succ, opF, cmpF, Bi.fd, Option.map_some, if_true, if_false, Bool.true_eq_false, Bool.false_eq_true, reduceIte, Bool.not_true, Bool.not_false, w_some, w_none, w_fz0, w_fz1, w_t0, w_t1, w_t2, w_t3, w_t4, w_add, w_addL, w_addT, w_sub, w_subB, w_mul, w_mulL, w_mulT, w_mod, w_div, w_lt, w_le, w_gt, w_ge, w_is, w_isnt, w_n0, w_n1, w_n2, w_n3, w_n4, w_neg, w_atL, w_atT, w_lenL, w_lenT, w_tupL, w_tupT, w_lisL, w_lisT, w_abs, w_int, w_intB, w_gcd, w_min, w_max, w_seqL, w_seqT, w_augA, w_augS, w_augM, w_intQ, w_lstQ, w_rng1, w_rng2, w_zipL, w_zipT, w_enum]
      refine ⟨rngOk_small (by omega) (by omega), ?_⟩
      rw [Int.toNat_natCast, rangeD0]
      refine ⟨by rw [List.length_map, List.length_range]; exact small (by omega), ?_⟩
      refine foldW_map (fun (k : Nat) => PyData.int (((q.1 : Int) * (k : Int) + (q.2 : Int)).fmod p)) (fun k acc kk hkm hk => ?_) ?_
      · rw [List.mem_range] at hkm
        have b1 : Bd 5 (q.1 : Int) := bd5 (by omega) (by omega)
        have bk : Bd 5 (k : Int) := bd5 (by omega) (by omega)
        have bp : Bd 5 (p : Int) := bd5 (by omega) (by omega)
        have bs : Bd 20 ((q.1 : Int) * k + q.2) := (b1.mul bk).add (bd5 (by omega) (by omega) : Bd 5 (q.2 : Int)) 20 (by decide) (by decide)
        have p0 : (p : Int) ≠ 0 := by omega
        have bf : Bd 20 (((q.1 : Int) * k + q.2).fdiv p) := by
          rw [Int.fdiv_eq_ediv_of_nonneg _ (by omega)]
          exact bs.le (Int.natAbs_ediv_le_natAbs _ _)
        refine ⟨b1.mulOk bk (by decide), b1.mulOk bk (by decide), bp.divOk (by decide) p0, bp.mulOk bf (by decide), ?_⟩
        show kk (acc ++ [PyData.int (((q.1 : Int) * k + q.2) - (p : Int) * (((q.1 : Int) * k + q.2).fdiv p))])
        rw [← Int.fmod_def]
        exact hk
      · refine ⟨?_, hk _ ⟨some (.fz (.int q.1)), some (.fz (.int q.2)), ?_⟩⟩
        · rw [List.length_map, List.length_map]
          have h1 := congrArg List.length el
          have h2 := pairsA_len (n := p) (by omega)
          have h3 : (pairsA p).length ≤ 1000 := by
            have : p = 1 ∨ p = 2 ∨ p = 3 ∨ p = 4 ∨ p = 5 ∨ p = 6 := by omega
            rcases this with rfl | rfl | rfl | rfl | rfl | rfl <;> decide
          rw [List.length_append] at h1
          exact small1000 (by omega)
        · rw [List.map_append, List.map_append, List.map_cons, List.map_nil, List.map_cons, List.map_nil]
          unfold rowI
          simp only [List.map_map]
          rfl
    · obtain ⟨y8, y9, rfl⟩ := hI
      simp only [true_and, wpSs, wpS, wpE, wpX, wpO, wpC, wpI, ent, kt0, bindT, bindTs, tgsLen, wipeR, constD, owL, List.map_cons, List.map_nil, List.length_cons, List.length_nil, List.replicate, List.cons_append, List.nil_append, Nat.reduceSub, Nat.reduceAdd, List.getElem?_cons_zero, List.getElem?_cons_succ, List.getElem?_nil, List.set_cons_zero, List.set_cons_succ, opF, cmpF, Bi.fd, Option.map_some, if_true, if_false, Bool.true_eq_false, Bool.false_eq_true, reduceIte, Bool.not_true, Bool.not_false, w_some, w_none, w_fz0, w_fz1, w_t0, w_t1, w_t2, w_t3, w_t4, w_add, w_addL, w_addT, w_sub, w_subB, w_mul, w_mulL, w_mulT, w_mod, w_div, w_lt, w_le, w_gt, w_ge, w_is, w_isnt, w_n0, w_n1, w_n2, w_n3, w_n4, w_neg, w_atL, w_atT, w_lenL, w_lenT, w_tupL, w_tupT, w_lisL, w_lisT, w_abs, w_int, w_intB, w_gcd, w_min, w_max, w_seqL, w_seqT, w_augA, w_augS, w_augM, w_intQ, w_lstQ, w_rng1, w_rng2, w_zipL, w_zipT, w_enum]
      rw [← lines_pairs]
      have hN := hF.f30
      refine dNe_fam ?_
      simp only [true_and, wpSs, wpS, wpE, wpX, wpO, wpC, wpI, ent, kt0, bindT, bindTs, tgsLen, wipeR, constD, owL, List.map_cons, List.map_nil, List.length_cons, List.length_nil, List.replicate, List.cons_append, List.nil_append, Nat.reduceSub, Nat.reduceAdd, List.getElem?_cons_zero, List.getElem?_cons_succ, List.getElem?_nil, List.set_cons_zero, List.set_cons_succ, opF, cmpF, Bi.fd, Option.map_some, if_true, if_false, Bool.true_eq_false, Bool.false_eq_true, reduceIte, Bool.not_true, Bool.not_false, w_some, w_none, w_fz0, w_fz1, w_t0, w_t1, w_t2, w_t3, w_t4, w_add, w_addL, w_addT, w_sub, w_subB, w_mul, w_mulL, w_mulT, w_mod, w_div, w_lt, w_le, w_gt, w_ge, w_is, w_isnt, w_n0, w_n1, w_n2, w_n3, w_n4, w_neg, w_atL, w_atT, w_lenL, w_lenT, w_tupL, w_tupT, w_lisL, w_lisT, w_abs, w_int, w_intB, w_gcd, w_min, w_max, w_seqL, w_seqT, w_augA, w_augS, w_augM, w_intQ, w_lstQ, w_rng1, w_rng2, w_zipL, w_zipT, w_enum]
      refine ⟨p, p, linesF p, rfl, hF, ?_⟩
      rw [hi]
      simp only [true_and, wpSs, wpS, wpE, wpX, wpO, wpC, wpI, ent, kt0, bindT, bindTs, tgsLen, wipeR, constD, owL, List.map_cons, List.map_nil, List.length_cons, List.length_nil, List.replicate, List.cons_append, List.nil_append, Nat.reduceSub, Nat.reduceAdd, List.getElem?_cons_zero, List.getElem?_cons_succ, List.getElem?_nil, List.set_cons_zero, List.set_cons_succ, opF, cmpF, Bi.fd, Option.map_some, if_true, if_false, Bool.true_eq_false, Bool.false_eq_true, reduceIte, Bool.not_true, Bool.not_false, w_some, w_none, w_fz0, w_fz1, w_t0, w_t1, w_t2, w_t3, w_t4, w_add, w_addL, w_addT, w_sub, w_subB, w_mul, w_mulL, w_mulT, w_mod, w_div, w_lt, w_le, w_gt, w_ge, w_is, w_isnt, w_n0, w_n1, w_n2, w_n3, w_n4, w_neg, w_atL, w_atT, w_lenL, w_lenT, w_tupL, w_tupT, w_lisL, w_lisT, w_abs, w_int, w_intB, w_gcd, w_min, w_max, w_seqL, w_seqT, w_augA, w_augS, w_augM, w_intQ, w_lstQ, w_rng1, w_rng2, w_zipL, w_zipT, w_enum]
      refine ⟨p, p, linesF p, rfl, hF, ?_⟩
      simp only [true_and, wpSs, wpS, wpE, wpX, wpO, wpC, wpI, ent, kt0, bindT, bindTs, tgsLen, wipeR, constD, owL, List.map_cons, List.map_nil, List.length_cons, List.length_nil, List.replicate, List.cons_append, List.nil_append, Nat.reduceSub, Nat.reduceAdd, List.getElem?_cons_zero, List.getElem?_cons_succ, List.getElem?_nil, List.set_cons_zero, List.set_cons_succ, opF, cmpF, Bi.fd, Option.map_some, if_true, if_false, Bool.true_eq_false, Bool.false_eq_true, reduceIte, Bool.not_true, Bool.not_false, w_some, w_none, w_fz0, w_fz1, w_t0, w_t1, w_t2, w_t3, w_t4, w_add, w_addL, w_addT, w_sub, w_subB, w_mul, w_mulL, w_mulT, w_mod, w_div, w_lt, w_le, w_gt, w_ge, w_is, w_isnt, w_n0, w_n1, w_n2, w_n3, w_n4, w_neg, w_atL, w_atT, w_lenL, w_lenT, w_tupL, w_tupT, w_lisL, w_lisT, w_abs, w_int, w_intB, w_gcd, w_min, w_max, w_seqL, w_seqT, w_augA, w_augS, w_augM, w_intQ, w_lstQ, w_rng1, w_rng2, w_zipL, w_zipT, w_enum, hL, List.length_map]
      refine ⟨small (by omega), ?_⟩
      refine foldW_any (R := fun f y => ∃ h, y = rowI h ∧ ∃ c, 1 ≤ c ∧ c ≤ p ∧ h.length = min c p ∧ ∀ x ∈ h, 0 ≤ x ∧ x < (p : Int)) (fun f acc kk hf hk => ?_) (fun ys hys => ?_)
      · refine ⟨p, rfl, by omega, by omega, fun z z0 z1 => ?_⟩
        obtain ⟨c, rfl⟩ : ∃ c : Nat, z = (c : Int) := ⟨z.toNat, by omega⟩
        simp only [true_and, wpSs, wpS, wpE, wpX, wpO, wpC, wpI, ent, kt0, bindT, bindTs, tgsLen, wipeR, constD, owL, List.map_cons, List.map_nil, List.length_cons, List.length_nil, List.replicate, List.cons_append, List.nil_append, Nat.reduceSub, Nat.reduceAdd, List.getElem?_cons_zero, List.getElem?_cons_succ, List.getElem?_nil, List.set_cons_zero, List.set_cons_succ, opF, cmpF, Bi.fd, Option.map_some, if_true, if_false, Bool.true_eq_false, Bool.false_eq_true, reduceIte, Bool.not_true, Bool.not_false, w_some, w_none, w_fz0, w_fz1, w_t0, w_t1, w_t2, w_t3, w_t4, w_add, w_addL, w_addT, w_sub, w_subB, w_mul, w_mulL, w_mulT, w_mod, w_div, w_lt, w_le, w_gt, w_ge, w_is, w_isnt, w_n0, w_n1, w_n2, w_n3, w_n4, w_neg, w_atL, w_atT, w_lenL, w_lenT, w_tupL, w_tupT, w_lisL, w_lisT, w_abs, w_int, w_intB, w_gcd, w_min, w_max, w_seqL, w_seqT, w_augA, w_augS, w_augM, w_intQ, w_lstQ, w_rng1, w_rng2, w_zipL, w_zipT, w_enum]
        rw [show (1 : Int) + (c : Int) = ((1 + c : Nat) : Int) by omega, cut_row]
        exact hk _ ⟨f.take (1 + c), rfl, 1 + c, by omega, by omega, by rw [List.length_take, hF.len f hf], fun x hx => hF.val f hf x (List.mem_of_mem_take hx)⟩
      obtain ⟨gs, rfl, hgl, hgs⟩ := paired_rows hys
      simp only [atI1, true_and, wpSs, wpS, wpE, wpX, wpO, wpC, wpI, ent, kt0, bindT, bindTs, tgsLen, wipeR, constD, owL, List.map_cons, List.map_nil, List.length_cons, List.length_nil, List.replicate, List.cons_append, List.nil_append, Nat.reduceSub, Nat.reduceAdd, List.getElem?_cons_zero, List.getElem?_cons_succ, List.getElem?_nil, List.set_cons_zero, List.set_cons_succ, opF, cmpF, Bi.fd, Option.map_some, if_true, if_false, Bool.true_eq_false, Bool.false_eq_true, reduceIte, Bool.not_true, Bool.not_false, w_some, w_none, w_fz0, w_fz1, w_t0, w_t1, w_t2, w_t3, w_t4, w_add, w_addL, w_addT, w_sub, w_subB, w_mul, w_mulL, w_mulT, w_mod, w_div, w_lt, w_le, w_gt, w_ge, w_is, w_isnt, w_n0, w_n1, w_n2, w_n3, w_n4, w_neg, w_atL, w_atT, w_lenL, w_lenT, w_tupL, w_tupT, w_lisL, w_lisT, w_abs, w_int, w_intB, w_gcd, w_min, w_max, w_seqL, w_seqT, w_augA, w_augS, w_augM, w_intQ, w_lstQ, w_rng1, w_rng2, w_zipL, w_zipT, w_enum, List.length_map]
      refine ⟨small (by omega), ?_⟩
      refine foldW_map (fun h => PyData.int (h.length : Nat)) (fun h acc kk hh hk => ?_) ?_
      · simp only [rowI, true_and, wpSs, wpS, wpE, wpX, wpO, wpC, wpI, ent, kt0, bindT, bindTs, tgsLen, wipeR, constD, owL, List.map_cons, List.map_nil, List.length_cons, List.length_nil, List.replicate, List.cons_append, List.nil_append, Nat.reduceSub, Nat.reduceAdd, List.getElem?_cons_zero, List.getElem?_cons_succ, List.getElem?_nil, List.set_cons_zero, List.set_cons_succ, opF, cmpF, Bi.fd, Option.map_some, if_true, if_false, Bool.true_eq_false, Bool.false_eq_true, reduceIte, Bool.not_true, Bool.not_false, w_some, w_none, w_fz0, w_fz1, w_t0, w_t1, w_t2, w_t3, w_t4, w_add, w_addL, w_addT, w_sub, w_subB, w_mul, w_mulL, w_mulT, w_mod, w_div, w_lt, w_le, w_gt, w_ge, w_is, w_isnt, w_n0, w_n1, w_n2, w_n3, w_n4, w_neg, w_atL, w_atT, w_lenL, w_lenT, w_tupL, w_tupT, w_lisL, w_lisT, w_abs, w_int, w_intB, w_gcd, w_min, w_max, w_seqL, w_seqT, w_augA, w_augS, w_augM, w_intQ, w_lstQ, w_rng1, w_rng2, w_zipL, w_zipT, w_enum, List.length_map]
        exact hk
      have em : (gs.map fun h => PyData.int (h.length : Nat)) = (gs.map fun h => ((h.length : Nat) : Int)).map PyData.int := by
        rw [List.map_map]
        rfl
      rw [em]
      simp only [setlenW, intsOf_map, w_some]
      refine ⟨by rw [List.length_map]; omega, dEqI ?_⟩
      by_cases hd : dstI (gs.map fun h => ((h.length : Nat) : Int)) = 1
      · rw [decide_eq_true hd]
        refine if_yes ?_
        have f1 := hF.f1
        cases gs with
        | nil => simp at hgl; omega
        | cons g0 gr =>
          obtain ⟨c, c1, c2, c3, _⟩ := hgs g0 List.mem_cons_self
          have hall : ∀ h ∈ g0 :: gr, h.length = g0.length := fun h hh => by
            have := dst_one hd _ (List.mem_map.mpr ⟨h, hh, rfl⟩) _ (List.mem_map.mpr ⟨g0, List.mem_cons_self, rfl⟩)
            omega
          have hG : Fam p g0.length (g0 :: gr) := ⟨hF.r1, hF.r6, by simp, by omega, by omega, by omega, hall, fun h hh x hx => by
            obtain ⟨_, _, _, _, hv⟩ := hgs h hh
            exact hv x hx⟩
          refine ⟨p, g0.length, g0 :: gr, rfl, hG, ?_⟩
          exact if_no (fin _ _ _ _ _ _ _ _)
      · rw [decide_eq_false hd]
        exact if_no (if_no (fin _ _ _ _ _ _ _ _))
end
end DL

set_option Elab.async false
set_option linter.all false
set_option maxRecDepth 100000
set_option maxHeartbeats 2000000
namespace DL
open PySem PySem.Spec PyProof.Rows L2
theorem dNeI_same {i : Int} {Q : D → Prop} (h : Q (.bool false)) : dNe (.int i) (.int i) Q := dNeI (by rw [decide_eq_true (rfl : i = i)]; exact h)
theorem law_pure {Γ : Gam} {P : D → Prop} {PE : Str → Prop} (g : LawH Γ) (hP : P (.bool true)) : wpSs Γ d_law.body [none, some .dr, none, none, none, none, none, none, none, none, none, none, none, none, none, none] (kt0 P PE) := by
  have e : d_law.body = .cons (stsGet 0 d_law.body) (.cons (stsGet 1 d_law.body) (.cons (stsGet 2 d_law.body) (.cons (stsGet 3 d_law.body) (.cons (stsGet 4 d_law.body) (.cons (stsGet 5 d_law.body) (stsDrop 6 d_law.body)))))) := rfl
  have fin := law_lines (PE := PE) g hP
  rw [e]
  generalize stsDrop 6 d_law.body = T at fin ⊢
  simp only [stsGet, d_law, true_and, wpSs, wpS, wpE, wpX, wpO, wpC, wpI, ent, kt0, bindT, bindTs, tgsLen, wipeR, constD, owL, List.map_cons, List.map_nil, List.length_cons, List.length_nil, List.replicate, List.cons_append, List.nil_append, Nat.reduceSub, Nat.reduceAdd, List.getElem?_cons_zero, List.getElem?_cons_succ, List.getElem?_nil, List.set_cons_zero, List.set_cons_succ, opF, cmpF, Bi.fd, Option.map_some, if_true, if_false, Bool.true_eq_false, Bool.false_eq_true, reduceIte, Bool.not_true, Bool.not_false, w_some, w_none, w_fz0, w_fz1, w_t0, w_t1, w_t2, w_t3, w_t4, w_add, w_addL, w_addT, w_sub, w_subB, w_mul, w_mulL, w_mulT, w_mod, w_div, w_lt, w_le, w_gt, w_ge, w_is, w_isnt, w_n0, w_n1, w_n2, w_n3, w_n4, w_neg, w_atL, w_atT, w_lenL, w_lenT, w_tupL, w_tupT, w_lisL, w_lisT, w_abs, w_int, w_intB, w_gcd, w_min, w_max, w_seqL, w_seqT, w_augA, w_augS, w_augM, w_intQ, w_lstQ, w_rng1, w_rng2, w_zipL, w_zipT, w_enum, g.mf, g.tk, g.fi, g.li]
  refine dNeI_same (if_no ?_)
  refine ⟨4, rfl, by decide, by decide, fun z z0 z1 => ?_⟩
  simp only [true_and, wpSs, wpS, wpE, wpX, wpO, wpC, wpI, ent, kt0, bindT, bindTs, tgsLen, wipeR, constD, owL, List.map_cons, List.map_nil, List.length_cons, List.length_nil, List.replicate, List.cons_append, List.nil_append, Nat.reduceSub, Nat.reduceAdd, List.getElem?_cons_zero, List.getElem?_cons_succ, List.getElem?_nil, List.set_cons_zero, List.set_cons_succ, opF, cmpF, Bi.fd, Option.map_some, if_true, if_false, Bool.true_eq_false, Bool.false_eq_true, reduceIte, Bool.not_true, Bool.not_false, w_some, w_none, w_fz0, w_fz1, w_t0, w_t1, w_t2, w_t3, w_t4, w_add, w_addL, w_addT, w_sub, w_subB, w_mul, w_mulL, w_mulT, w_mod, w_div, w_lt, w_le, w_gt, w_ge, w_is, w_isnt, w_n0, w_n1, w_n2, w_n3, w_n4, w_neg, w_atL, w_atT, w_lenL, w_lenT, w_tupL, w_tupT, w_lisL, w_lisT, w_abs, w_int, w_intB, w_gcd, w_min, w_max, w_seqL, w_seqT, w_augA, w_augS, w_augM, w_intQ, w_lstQ, w_rng1, w_rng2, w_zipL, w_zipT, w_enum]
  refine ⟨4, rfl, by decide, by decide, fun u u0 u1 => ?_⟩
  obtain ⟨n, hn⟩ : ∃ n : Nat, 1 + u = (n : Int) := ⟨(1 + u).toNat, by omega⟩
  simp only [true_and, wpSs, wpS, wpE, wpX, wpO, wpC, wpI, ent, kt0, bindT, bindTs, tgsLen, wipeR, constD, owL, List.map_cons, List.map_nil, List.length_cons, List.length_nil, List.replicate, List.cons_append, List.nil_append, Nat.reduceSub, Nat.reduceAdd, List.getElem?_cons_zero, List.getElem?_cons_succ, List.getElem?_nil, List.set_cons_zero, List.set_cons_succ, opF, cmpF, Bi.fd, Option.map_some, if_true, if_false, Bool.true_eq_false, Bool.false_eq_true, reduceIte, Bool.not_true, Bool.not_false, w_some, w_none, w_fz0, w_fz1, w_t0, w_t1, w_t2, w_t3, w_t4, w_add, w_addL, w_addT, w_sub, w_subB, w_mul, w_mulL, w_mulT, w_mod, w_div, w_lt, w_le, w_gt, w_ge, w_is, w_isnt, w_n0, w_n1, w_n2, w_n3, w_n4, w_neg, w_atL, w_atT, w_lenL, w_lenT, w_tupL, w_tupT, w_lisL, w_lisT, w_abs, w_int, w_intB, w_gcd, w_min, w_max, w_seqL, w_seqT, w_augA, w_augS, w_augM, w_intQ, w_lstQ, w_rng1, w_rng2, w_zipL, w_zipT, w_enum, hn]
  refine ⟨6, rfl, by decide, by decide, fun j j0 j1 => ?_⟩
  obtain ⟨m, hm⟩ : ∃ m : Nat, 1 + j = (m : Int) := ⟨(1 + j).toNat, by omega⟩
  simp only [true_and, wpSs, wpS, wpE, wpX, wpO, wpC, wpI, ent, kt0, bindT, bindTs, tgsLen, wipeR, constD, owL, List.map_cons, List.map_nil, List.length_cons, List.length_nil, List.replicate, List.cons_append, List.nil_append, Nat.reduceSub, Nat.reduceAdd, List.getElem?_cons_zero, List.getElem?_cons_succ, List.getElem?_nil, List.set_cons_zero, List.set_cons_succ, opF, cmpF, Bi.fd, Option.map_some, if_true, if_false, Bool.true_eq_false, Bool.false_eq_true, reduceIte, Bool.not_true, Bool.not_false, w_some, w_none, w_fz0, w_fz1, w_t0, w_t1, w_t2, w_t3, w_t4, w_add, w_addL, w_addT, w_sub, w_subB, w_mul, w_mulL, w_mulT, w_mod, w_div, w_lt, w_le, w_gt, w_ge, w_is, w_isnt, w_n0, w_n1, w_n2, w_n3, w_n4, w_neg, w_atL, w_atT, w_lenL, w_lenT, w_tupL, w_tupT, w_lisL, w_lisT, w_abs, w_int, w_intB, w_gcd, w_min, w_max, w_seqL, w_seqT, w_augA, w_augS, w_augM, w_intQ, w_lstQ, w_rng1, w_rng2, w_zipL, w_zipT, w_enum, hm]
  refine ⟨rngOk_small (by omega) (by omega), ?_⟩
  rw [Int.toNat_natCast, rangeD0]
  refine ⟨by rw [List.length_map, List.length_range]; exact small (by omega), ?_⟩
  refine foldW_any (R := fun _ y => ∃ f, y = rowI f ∧ (f.length = n ∧ ∀ x ∈ f, 0 ≤ x ∧ x < 1 + z)) (fun k acc kk hkm hk => ?_) (fun ys hys => ?_)
  · refine ⟨rngOk_small (by omega) (by omega), ?_⟩
    rw [Int.toNat_natCast, rangeD0]
    refine ⟨by rw [List.length_map, List.length_range]; exact small (by omega), ?_⟩
    refine foldW_any (R := fun _ y => ∃ i : Int, y = PyData.int i ∧ (0 ≤ i ∧ i < 1 + z)) (fun k acc kk hkm hk => ?_) (fun ys hys => ?_)
    · refine ⟨1 + z, rfl, by omega, by omega, fun v v0 v1 => ?_⟩
      exact hk _ ⟨v, rfl, v0, v1⟩
    · obtain ⟨ws, rfl, hl, hw⟩ := paired_ints hys
      rw [List.length_range] at hl
      exact hk _ ⟨ws, rfl, hl, hw⟩
  · obtain ⟨fs, rfl, hl, hf⟩ := paired_rows hys
    rw [List.length_range] at hl
    have hF : Fam (1 + z) n fs := ⟨by omega, by omega, by omega, by omega, by omega, by omega, fun f h => (hf f h).1, fun f h => (hf f h).2⟩
    refine ⟨1 + z, n, fs, rfl, hF, ?_⟩
    refine if_no ?_
    refine ⟨6, rfl, by decide, by decide, fun q q0 q1 => ?_⟩
    obtain ⟨p, hp⟩ : ∃ p : Nat, 1 + q = (p : Int) := ⟨(1 + q).toNat, by omega⟩
    rw [w_add, hp]
    refine ⟨p, rfl, by omega, by omega, ?_⟩
    exact fin _ _ _ _ _ _ _ p (by omega) (by omega)
end DL

set_option Elab.async false
set_option linter.all false
set_option maxRecDepth 100000
set_option maxHeartbeats 4000000
namespace Law
open PySem PySem.Spec PyProof.Rows L2 DL
/-! the table of the program's defs -/
def gl : List (Str × D) := [("NOTHING", (.tuple [(.int 0), (.int 1)])), ("MAX_FUNCTIONS", (.int 30)), ("MAX_VALUES", (.int 6)), ("MAX_KEYS", (.int 8))]
def exs : List Str := ["NotAllowed"]
def Γ0 : Gam := ⟨fun _ _ _ _ => False, gl, [], exs⟩
def Γ1 : Gam := Γ0.add "lowest" φ_lowest
theorem chk_lowest : chkD Γ0 d_lowest (topS 6) = true := by decide +kernel
def Γ2 : Gam := Γ1.add "plus" φ_plus
theorem chk_plus : chkD Γ1 d_plus (topS 7) = true := by decide +kernel
def Γ3 : Gam := Γ2.add "minus" φ_minus
theorem chk_minus : chkD Γ2 d_minus (topS 8) = true := by decide +kernel
def Γ4 : Gam := Γ3.add "times" φ_times
theorem chk_times : chkD Γ3 d_times (topS 9) = true := by decide +kernel
def Γ5 : Gam := Γ4.add "sign_of" φ_sign_of
theorem chk_sign_of : chkD Γ4 d_sign_of (topS 10) = true := by decide +kernel
def Γ6 : Gam := Γ5.add "compare" φ_compare
theorem chk_compare : chkD Γ5 d_compare (topS 11) = true := by decide +kernel
def Γ7 : Gam := Γ6.add "is_integer" φ_is_integer
theorem chk_is_integer : chkD Γ6 d_is_integer (topS 12) = true := by decide +kernel
def Γ8 : Gam := Γ7.add "is_row" φ_is_row
theorem chk_is_row : chkD Γ7 d_is_row (topS 13) = true := by decide +kernel
def Γ9 : Gam := Γ8.add "total_of" φ_total_of
theorem chk_total_of : chkD Γ8 d_total_of (topS 15) = true := by decide +kernel
def Γ10 : Gam := Γ9.add "lesser" φ_lesser
theorem chk_lesser : chkD Γ9 d_lesser (topS 17) = true := by decide +kernel
def Γ11 : Gam := Γ10.add "is_family" φ_is_family
theorem chk_is_family : chkD Γ10 d_is_family (topS 22) = true := by decide +kernel
def Γ12 : Gam := Γ11.add "check_family" φ_check_family
theorem chk_check_family : chkD Γ11 d_check_family (topS 23) = true := by decide +kernel
def Γ13 : Gam := Γ12.add "meeting" φ_meeting
theorem chk_meeting : chkD Γ12 d_meeting (topS 24) = true := by decide +kernel
def Γ14 : Gam := Γ13.add "pairs_of_keys" φ_pairs_of_keys
theorem chk_pairs_of_keys : chkD Γ13 d_pairs_of_keys (topS 25) = true := by decide +kernel
def Γ15 : Gam := Γ14.add "is_universal" φ_is_universal
theorem chk_is_universal : chkD Γ14 d_is_universal (topS 26) = true := by decide +kernel
def Γ16 : Gam := Γ15.add "is_independent" φ_is_independent
theorem chk_is_independent : chkD Γ15 d_is_independent (topS 27) = true := by decide +kernel
def Γ17 : Gam := Γ16.add "lines_family" φ_lines_family
theorem chk_lines_family : chkD Γ16 d_lines_family (topS 28) = true := by decide +kernel
def Γ18 : Gam := Γ17.add "drawn" φ_drawn
theorem chk_drawn : chkD Γ17 d_drawn (topS 29) = true := by decide +kernel
def Γ19 : Gam := Γ18.add "distance" φ_distance
theorem chk_distance : chkD Γ18 d_distance (topS 30) = true := by decide +kernel
def Γ20 : Gam := Γ19.add "from_even" φ_from_even
theorem chk_from_even : chkD Γ19 d_from_even (topS 31) = true := by decide +kernel
def Γ21 : Gam := Γ20.add "meeting_of" φ_meeting_of
theorem chk_meeting_of : chkD Γ20 d_meeting_of (topS 32) = true := by decide +kernel
def Γ22 : Gam := Γ21.add "_law_take" φTake
def Γ23 : Gam := Γ22.add "_law_pairs_below" φ__law_pairs_below
theorem chk__law_pairs_below : chkD Γ22 d__law_pairs_below (topS 36) = true := by decide +kernel
def Γ24 : Gam := Γ23.add "_law_lowest" φ__law_lowest
theorem chk__law_lowest : chkD Γ23 d__law_lowest (topS 37) = true := by decide +kernel
def Γ25 : Gam := Γ24.add "_law_plus" φ__law_plus
theorem chk__law_plus : chkD Γ24 d__law_plus (topS 38) = true := by decide +kernel
def Γ26 : Gam := Γ25.add "_law_times" φ__law_times
theorem chk__law_times : chkD Γ25 d__law_times (topS 39) = true := by decide +kernel
def Γ27 : Gam := Γ26.add "_law_less" φ__law_less
theorem chk__law_less : chkD Γ26 d__law_less (topS 40) = true := by decide +kernel
def Γ28 : Gam := Γ27.add "_law_total" φ__law_total
theorem chk__law_total : chkD Γ27 d__law_total (topS 41) = true := by decide +kernel
def Γ29 : Gam := Γ28.add "_law_row" φ__law_row
theorem chk__law_row : chkD Γ28 d__law_row (topS 42) = true := by decide +kernel
def Γ30 : Gam := Γ29.add "_law_channel" (spW Γ29 d__law_channel)
theorem chk__law_channel : chkD Γ29 d__law_channel (topS 43) = true := by decide +kernel
def Γ31 : Gam := Γ30.add "_law_gains" (spW Γ30 d__law_gains)
theorem chk__law_gains : chkD Γ30 d__law_gains (topS 44) = true := by decide +kernel
def Γ32 : Gam := Γ31.add "_law_worth" (spW Γ31 d__law_worth)
theorem chk__law_worth : chkD Γ31 d__law_worth (topS 45) = true := by decide +kernel
def Γ33 : Gam := Γ32.add "_law_refused" φ__law_refused
theorem chk__law_refused : chkD Γ32 d__law_refused (topS 46) = true := by decide +kernel
def Γ34 : Gam := Γ33.add "_law_lines" φ__law_lines
theorem chk__law_lines : chkD Γ33 d__law_lines (topS 47) = true := by decide +kernel
def Γ35 : Gam := Γ34.add "_law_met" φ__law_met
theorem chk__law_met : chkD Γ34 d__law_met (topS 48) = true := by decide +kernel
def Γ36 : Gam := Γ35.add "_law_universal" φ__law_universal
theorem chk__law_universal : chkD Γ35 d__law_universal (topS 49) = true := by decide +kernel
def Γ37 : Gam := Γ36.add "_law_independent" φ__law_independent
theorem chk__law_independent : chkD Γ36 d__law_independent (topS 50) = true := by decide +kernel
def Γ38 : Gam := Γ37.add "_law_fine" φ__law_fine
theorem chk__law_fine : chkD Γ37 d__law_fine (topS 51) = true := by decide +kernel
def ΓL : Gam := Γ38
theorem chk_law : chkL Γ38 d_law (topS 52) = true := by decide +kernel
end Law

set_option Elab.async false
set_option linter.all false
set_option maxRecDepth 100000
set_option maxHeartbeats 0
namespace Law
open PySem PySem.Spec PyProof.Rows L2 DL
/-! the head: what the top has written -/
def fn : List He.DefD := [dX "lowest" 6, dX "plus" 7, dX "minus" 8, dX "times" 9, dX "sign_of" 10, dX "compare" 11, dX "is_integer" 12, dX "is_row" 13, dX "total_of" 15, dX "lesser" 17, dX "is_family" 22, dX "check_family" 23, dX "meeting" 24, dX "pairs_of_keys" 25, dX "is_universal" 26, dX "is_independent" 27, dX "lines_family" 28, dX "drawn" 29, dX "distance" 30, dX "from_even" 31, dX "meeting_of" 32, dX "_law_draw" 34, dX "_law_take" 35, dX "_law_pairs_below" 36, dX "_law_lowest" 37, dX "_law_plus" 38, dX "_law_times" 39, dX "_law_less" 40, dX "_law_total" 41, dX "_law_row" 42, dX "_law_channel" 43, dX "_law_gains" 44, dX "_law_worth" 45, dX "_law_refused" 46, dX "_law_lines" 47, dX "_law_met" 48, dX "_law_universal" 49, dX "_law_independent" 50, dX "_law_fine" 51, dX "law" 52]
def fa : List He.Fa := frees ++ (exFa exs ++ [.glo "lowest", .glo "plus", .glo "minus", .glo "times", .glo "sign_of", .glo "compare", .glo "is_integer", .glo "is_row", .glo "total_of", .glo "lesser", .glo "is_family", .glo "check_family", .glo "meeting", .glo "pairs_of_keys", .glo "is_universal", .glo "is_independent", .glo "lines_family", .glo "drawn", .glo "distance", .glo "from_even", .glo "meeting_of", .glo "_law_draw", .glo "_law_take", .glo "_law_pairs_below", .glo "_law_lowest", .glo "_law_plus", .glo "_law_times", .glo "_law_less", .glo "_law_total", .glo "_law_row", .glo "_law_channel", .glo "_law_gains", .glo "_law_worth", .glo "_law_refused", .glo "_law_lines", .glo "_law_met", .glo "_law_universal", .glo "_law_independent", .glo "_law_fine", .glo "law"])
def xs : List Xa := datXs gl ++ []
def loose0 : List PySem.Str := ["GuessError", "NotAllowed", "NOTHING", "MAX_FUNCTIONS", "MAX_VALUES", "MAX_KEYS", "lowest", "plus", "minus", "times", "sign_of", "compare", "is_integer", "is_row", "total_of", "lesser", "is_family", "check_family", "meeting", "pairs_of_keys", "is_universal", "is_independent", "lines_family", "drawn", "distance", "from_even", "meeting_of", "_law_draw", "_law_take", "_law_pairs_below"]
def loose1 : List PySem.Str := ["_law_lowest", "_law_plus", "_law_times", "_law_less", "_law_total", "_law_row", "_law_channel", "_law_gains", "_law_worth", "_law_refused", "_law_lines", "_law_met", "_law_universal", "_law_independent", "_law_fine"]
def loose : List PySem.Str := loose0 ++ loose1
abbrev R : PySem.W.OpenRow := PySem.W.OpenLaw.row PySem.Challenge.rw_guessbound_k48_drawn_functions
abbrev hk : PySem.W.Hook := hookX 4 fa fn xs
def ob (s : PySem.W.SharedT) : AlX := obsXG 4 fa fn xs (HandSHeadRun.getT s)
theorem ob_eq (s : PySem.W.SharedT) : ob s = hk.obs s.abs := obsXG_eq (HandSHeadRun.getT_eq s)
theorem run (w : World) : HandSHeadRun.RunEqI R (PySem.W.view R.prog [0, 52]) hk ob 6000 loose w := by
  unfold HandSHeadRun.RunEqI
  kernel_rfl
end Law

set_option Elab.async false
set_option linter.all false
set_option maxRecDepth 100000
set_option maxHeartbeats 4000000
namespace Law
open PySem PySem.Spec PyProof.Rows L2 DL
theorem pure_law : wpSs ΓL d_law.body (entL d_law.N.length) (kt0 (fun r => r = .bool true) fun _ => False) :=
  law_pure ⟨by rfl, by rfl, by rfl, by rfl, by rfl, by rfl, by rfl⟩ rfl
end Law

set_option Elab.async false
set_option linter.all false
set_option maxRecDepth 100000
set_option maxHeartbeats 0
namespace Law
open PySem PySem.Spec PyProof.Rows L2 DL
section
variable {P : Program} {w : World} {K : PySem.W.Frag} {h : Heap} {mg : Str → Option Value} {f : Addr}
theorem facts (X : K.In h) (G : h.Ns mainGlobals mg) (hfa : mg ("law" : Str) = some (.ref f)) (c : SaysX fa fn xs K) :
    ∃ fd : FuncData, (∀ (s : Shared) (v : Value), BindsTo s fd ⟨[v], []⟩ [("script", v)]) ∧ ∀ base : Heap, K.In base → base.Ns mainGlobals mg → FnOk P w K mg base (L2.CX P w) 39 f fd ["script"] (spLaw K) := by
  obtain ⟨fd_lowest, F_lowest⟩ := def_at c 0 (x := "lowest") (j := 6) rfl
  obtain ⟨fd_plus, F_plus⟩ := def_at c 1 (x := "plus") (j := 7) rfl
  obtain ⟨fd_minus, F_minus⟩ := def_at c 2 (x := "minus") (j := 8) rfl
  obtain ⟨fd_times, F_times⟩ := def_at c 3 (x := "times") (j := 9) rfl
  obtain ⟨fd_sign_of, F_sign_of⟩ := def_at c 4 (x := "sign_of") (j := 10) rfl
  obtain ⟨fd_compare, F_compare⟩ := def_at c 5 (x := "compare") (j := 11) rfl
  obtain ⟨fd_is_integer, F_is_integer⟩ := def_at c 6 (x := "is_integer") (j := 12) rfl
  obtain ⟨fd_is_row, F_is_row⟩ := def_at c 7 (x := "is_row") (j := 13) rfl
  obtain ⟨fd_total_of, F_total_of⟩ := def_at c 8 (x := "total_of") (j := 15) rfl
  obtain ⟨fd_lesser, F_lesser⟩ := def_at c 9 (x := "lesser") (j := 17) rfl
  obtain ⟨fd_is_family, F_is_family⟩ := def_at c 10 (x := "is_family") (j := 22) rfl
  obtain ⟨fd_check_family, F_check_family⟩ := def_at c 11 (x := "check_family") (j := 23) rfl
  obtain ⟨fd_meeting, F_meeting⟩ := def_at c 12 (x := "meeting") (j := 24) rfl
  obtain ⟨fd_pairs_of_keys, F_pairs_of_keys⟩ := def_at c 13 (x := "pairs_of_keys") (j := 25) rfl
  obtain ⟨fd_is_universal, F_is_universal⟩ := def_at c 14 (x := "is_universal") (j := 26) rfl
  obtain ⟨fd_is_independent, F_is_independent⟩ := def_at c 15 (x := "is_independent") (j := 27) rfl
  obtain ⟨fd_lines_family, F_lines_family⟩ := def_at c 16 (x := "lines_family") (j := 28) rfl
  obtain ⟨fd_drawn, F_drawn⟩ := def_at c 17 (x := "drawn") (j := 29) rfl
  obtain ⟨fd_distance, F_distance⟩ := def_at c 18 (x := "distance") (j := 30) rfl
  obtain ⟨fd_from_even, F_from_even⟩ := def_at c 19 (x := "from_even") (j := 31) rfl
  obtain ⟨fd_meeting_of, F_meeting_of⟩ := def_at c 20 (x := "meeting_of") (j := 32) rfl
  obtain ⟨fd__law_draw, F__law_draw⟩ := def_at c 21 (x := "_law_draw") (j := 34) rfl
  obtain ⟨fd__law_take, F__law_take⟩ := def_at c 22 (x := "_law_take") (j := 35) rfl
  obtain ⟨fd__law_pairs_below, F__law_pairs_below⟩ := def_at c 23 (x := "_law_pairs_below") (j := 36) rfl
  obtain ⟨fd__law_lowest, F__law_lowest⟩ := def_at c 24 (x := "_law_lowest") (j := 37) rfl
  obtain ⟨fd__law_plus, F__law_plus⟩ := def_at c 25 (x := "_law_plus") (j := 38) rfl
  obtain ⟨fd__law_times, F__law_times⟩ := def_at c 26 (x := "_law_times") (j := 39) rfl
  obtain ⟨fd__law_less, F__law_less⟩ := def_at c 27 (x := "_law_less") (j := 40) rfl
  obtain ⟨fd__law_total, F__law_total⟩ := def_at c 28 (x := "_law_total") (j := 41) rfl
  obtain ⟨fd__law_row, F__law_row⟩ := def_at c 29 (x := "_law_row") (j := 42) rfl
  obtain ⟨fd__law_channel, F__law_channel⟩ := def_at c 30 (x := "_law_channel") (j := 43) rfl
  obtain ⟨fd__law_gains, F__law_gains⟩ := def_at c 31 (x := "_law_gains") (j := 44) rfl
  obtain ⟨fd__law_worth, F__law_worth⟩ := def_at c 32 (x := "_law_worth") (j := 45) rfl
  obtain ⟨fd__law_refused, F__law_refused⟩ := def_at c 33 (x := "_law_refused") (j := 46) rfl
  obtain ⟨fd__law_lines, F__law_lines⟩ := def_at c 34 (x := "_law_lines") (j := 47) rfl
  obtain ⟨fd__law_met, F__law_met⟩ := def_at c 35 (x := "_law_met") (j := 48) rfl
  obtain ⟨fd__law_universal, F__law_universal⟩ := def_at c 36 (x := "_law_universal") (j := 49) rfl
  obtain ⟨fd__law_independent, F__law_independent⟩ := def_at c 37 (x := "_law_independent") (j := 50) rfl
  obtain ⟨fd__law_fine, F__law_fine⟩ := def_at c 38 (x := "_law_fine") (j := 51) rfl
  obtain ⟨fd_law, F_law⟩ := def_at c 39 (x := "law") (j := 52) rfl
  have e := hfa.symm.trans (He.glo_ok X G (fa_glo (exs := exs) c 39 (f := .glo "law") rfl))
  cases e
  refine ⟨fd_law, fun s v => (FunD.bindsA (ps := ["script"]) F_law fun _ _ _ _ _ _ us hl => match us, hl with | [_], _ => rfl) s [v] rfl, fun base _ _ => ?_⟩
  have g0 : GOk (glb0 P w K mg base Γ0) := g0_ok (exs := exs) X G c rfl rfl
  have e0 : EOk (glb0 P w K mg base Γ0) := e0_ok (exs := exs) X G c rfl
  have g1 : GOk (glbk P w K mg base 1 Γ1) := g0.add e0 (d := d_lowest) (st := topS 6) φ_lowest F_lowest (He.glo_ok X G (fa_glo (exs := exs) c 0 (f := .glo "lowest") rfl)) chk_lowest (fun _ _ _ _ _ _ us hl => match us, hl with | [_, _], _ => rfl) (imp_lowest)
  have e1 : EOk (glbk P w K mg base 1 Γ1) := e0.grow (nm := "lowest") (φ := φ_lowest)
  have g2 : GOk (glbk P w K mg base 2 Γ2) := g1.add e1 (d := d_plus) (st := topS 7) φ_plus F_plus (He.glo_ok X G (fa_glo (exs := exs) c 1 (f := .glo "plus") rfl)) chk_plus (fun _ _ _ _ _ _ us hl => match us, hl with | [_, _], _ => rfl) (imp_plus (by rfl))
  have e2 : EOk (glbk P w K mg base 2 Γ2) := e1.grow (nm := "plus") (φ := φ_plus)
  have g3 : GOk (glbk P w K mg base 3 Γ3) := g2.add e2 (d := d_minus) (st := topS 8) φ_minus F_minus (He.glo_ok X G (fa_glo (exs := exs) c 2 (f := .glo "minus") rfl)) chk_minus (fun _ _ _ _ _ _ us hl => match us, hl with | [_, _], _ => rfl) (imp_minus (by rfl))
  have e3 : EOk (glbk P w K mg base 3 Γ3) := e2.grow (nm := "minus") (φ := φ_minus)
  have g4 : GOk (glbk P w K mg base 4 Γ4) := g3.add e3 (d := d_times) (st := topS 9) φ_times F_times (He.glo_ok X G (fa_glo (exs := exs) c 3 (f := .glo "times") rfl)) chk_times (fun _ _ _ _ _ _ us hl => match us, hl with | [_, _], _ => rfl) (imp_times (by rfl))
  have e4 : EOk (glbk P w K mg base 4 Γ4) := e3.grow (nm := "times") (φ := φ_times)
  have g5 : GOk (glbk P w K mg base 5 Γ5) := g4.add e4 (d := d_sign_of) (st := topS 10) φ_sign_of F_sign_of (He.glo_ok X G (fa_glo (exs := exs) c 4 (f := .glo "sign_of") rfl)) chk_sign_of (fun _ _ _ _ _ _ us hl => match us, hl with | [_], _ => rfl) (imp_sign_of)
  have e5 : EOk (glbk P w K mg base 5 Γ5) := e4.grow (nm := "sign_of") (φ := φ_sign_of)
  have g6 : GOk (glbk P w K mg base 6 Γ6) := g5.add e5 (d := d_compare) (st := topS 11) φ_compare F_compare (He.glo_ok X G (fa_glo (exs := exs) c 5 (f := .glo "compare") rfl)) chk_compare (fun _ _ _ _ _ _ us hl => match us, hl with | [_, _], _ => rfl) (imp_compare (by rfl))
  have e6 : EOk (glbk P w K mg base 6 Γ6) := e5.grow (nm := "compare") (φ := φ_compare)
  have g7 : GOk (glbk P w K mg base 7 Γ7) := g6.add e6 (d := d_is_integer) (st := topS 12) φ_is_integer F_is_integer (He.glo_ok X G (fa_glo (exs := exs) c 6 (f := .glo "is_integer") rfl)) chk_is_integer (fun _ _ _ _ _ _ us hl => match us, hl with | [_, _, _], _ => rfl) (imp_is_integer)
  have e7 : EOk (glbk P w K mg base 7 Γ7) := e6.grow (nm := "is_integer") (φ := φ_is_integer)
  have g8 : GOk (glbk P w K mg base 8 Γ8) := g7.add e7 (d := d_is_row) (st := topS 13) φ_is_row F_is_row (He.glo_ok X G (fa_glo (exs := exs) c 7 (f := .glo "is_row") rfl)) chk_is_row (fun _ _ _ _ _ _ us hl => match us, hl with | [_, _, _], _ => rfl) (imp_is_row (by rfl))
  have e8 : EOk (glbk P w K mg base 8 Γ8) := e7.grow (nm := "is_row") (φ := φ_is_row)
  have g9 : GOk (glbk P w K mg base 9 Γ9) := g8.add e8 (d := d_total_of) (st := topS 15) φ_total_of F_total_of (He.glo_ok X G (fa_glo (exs := exs) c 8 (f := .glo "total_of") rfl)) chk_total_of (fun _ _ _ _ _ _ us hl => match us, hl with | [_], _ => rfl) (imp_total_of (by rfl) (by rfl))
  have e9 : EOk (glbk P w K mg base 9 Γ9) := e8.grow (nm := "total_of") (φ := φ_total_of)
  have g10 : GOk (glbk P w K mg base 10 Γ10) := g9.add e9 (d := d_lesser) (st := topS 17) φ_lesser F_lesser (He.glo_ok X G (fa_glo (exs := exs) c 9 (f := .glo "lesser") rfl)) chk_lesser (fun _ _ _ _ _ _ us hl => match us, hl with | [_, _], _ => rfl) (imp_lesser (by rfl))
  have e10 : EOk (glbk P w K mg base 10 Γ10) := e9.grow (nm := "lesser") (φ := φ_lesser)
  have g11 : GOk (glbk P w K mg base 11 Γ11) := g10.add e10 (d := d_is_family) (st := topS 22) φ_is_family F_is_family (He.glo_ok X G (fa_glo (exs := exs) c 10 (f := .glo "is_family") rfl)) chk_is_family (fun _ _ _ _ _ _ us hl => match us, hl with | [_], _ => rfl) (imp_is_family ⟨by rfl, by rfl, by rfl⟩ (by rfl) (by rfl))
  have e11 : EOk (glbk P w K mg base 11 Γ11) := e10.grow (nm := "is_family") (φ := φ_is_family)
  have g12 : GOk (glbk P w K mg base 12 Γ12) := g11.add e11 (d := d_check_family) (st := topS 23) φ_check_family F_check_family (He.glo_ok X G (fa_glo (exs := exs) c 11 (f := .glo "check_family") rfl)) chk_check_family (fun _ _ _ _ _ _ us hl => match us, hl with | [_], _ => rfl) (imp_check_family (by rfl))
  have e12 : EOk (glbk P w K mg base 12 Γ12) := e11.grow (nm := "check_family") (φ := φ_check_family)
  have g13 : GOk (glbk P w K mg base 13 Γ13) := g12.add e12 (d := d_meeting) (st := topS 24) φ_meeting F_meeting (He.glo_ok X G (fa_glo (exs := exs) c 12 (f := .glo "meeting") rfl)) chk_meeting (fun _ _ _ _ _ _ us hl => match us, hl with | [_, _, _], _ => rfl) (imp_meeting (by rfl))
  have e13 : EOk (glbk P w K mg base 13 Γ13) := e12.grow (nm := "meeting") (φ := φ_meeting)
  have g14 : GOk (glbk P w K mg base 14 Γ14) := g13.add e13 (d := d_pairs_of_keys) (st := topS 25) φ_pairs_of_keys F_pairs_of_keys (He.glo_ok X G (fa_glo (exs := exs) c 13 (f := .glo "pairs_of_keys") rfl)) chk_pairs_of_keys (fun _ _ _ _ _ _ us hl => match us, hl with | [_], _ => rfl) (imp_pairs_of_keys)
  have e14 : EOk (glbk P w K mg base 14 Γ14) := e13.grow (nm := "pairs_of_keys") (φ := φ_pairs_of_keys)
  have g15 : GOk (glbk P w K mg base 15 Γ15) := g14.add e14 (d := d_is_universal) (st := topS 26) φ_is_universal F_is_universal (He.glo_ok X G (fa_glo (exs := exs) c 14 (f := .glo "is_universal") rfl)) chk_is_universal (fun _ _ _ _ _ _ us hl => match us, hl with | [_], _ => rfl) (imp_is_universal (by rfl) (by rfl) (by rfl) (by rfl))
  have e15 : EOk (glbk P w K mg base 15 Γ15) := e14.grow (nm := "is_universal") (φ := φ_is_universal)
  have g16 : GOk (glbk P w K mg base 16 Γ16) := g15.add e15 (d := d_is_independent) (st := topS 27) φ_is_independent F_is_independent (He.glo_ok X G (fa_glo (exs := exs) c 15 (f := .glo "is_independent") rfl)) chk_is_independent (fun _ _ _ _ _ _ us hl => match us, hl with | [_], _ => rfl) (imp_is_independent (by rfl))
  have e16 : EOk (glbk P w K mg base 16 Γ16) := e15.grow (nm := "is_independent") (φ := φ_is_independent)
  have g17 : GOk (glbk P w K mg base 17 Γ17) := g16.add e16 (d := d_lines_family) (st := topS 28) φ_lines_family F_lines_family (He.glo_ok X G (fa_glo (exs := exs) c 16 (f := .glo "lines_family") rfl)) chk_lines_family (fun _ _ _ _ _ _ us hl => match us, hl with | [_], _ => rfl) (imp_lines_family (by rfl))
  have e17 : EOk (glbk P w K mg base 17 Γ17) := e16.grow (nm := "lines_family") (φ := φ_lines_family)
  have g18 : GOk (glbk P w K mg base 18 Γ18) := g17.add e17 (d := d_drawn) (st := topS 29) φ_drawn F_drawn (He.glo_ok X G (fa_glo (exs := exs) c 17 (f := .glo "drawn") rfl)) chk_drawn (fun _ _ _ _ _ _ us hl => match us, hl with | [_, _], _ => rfl) (imp_drawn (by rfl) (by rfl) (by rfl))
  have e18 : EOk (glbk P w K mg base 18 Γ18) := e17.grow (nm := "drawn") (φ := φ_drawn)
  have g19 : GOk (glbk P w K mg base 19 Γ19) := g18.add e18 (d := d_distance) (st := topS 30) φ_distance F_distance (He.glo_ok X G (fa_glo (exs := exs) c 18 (f := .glo "distance") rfl)) chk_distance (fun _ _ _ _ _ _ us hl => match us, hl with | [_, _], _ => rfl) (imp_distance (by rfl) (by rfl) (by rfl) (by rfl))
  have e19 : EOk (glbk P w K mg base 19 Γ19) := e18.grow (nm := "distance") (φ := φ_distance)
  have g20 : GOk (glbk P w K mg base 20 Γ20) := g19.add e19 (d := d_from_even) (st := topS 31) φ_from_even F_from_even (He.glo_ok X G (fa_glo (exs := exs) c 19 (f := .glo "from_even") rfl)) chk_from_even (fun _ _ _ _ _ _ us hl => match us, hl with | [_, _], _ => rfl) (imp_from_even (by rfl) (by rfl) (by rfl))
  have e20 : EOk (glbk P w K mg base 20 Γ20) := e19.grow (nm := "from_even") (φ := φ_from_even)
  have g21 : GOk (glbk P w K mg base 21 Γ21) := g20.add e20 (d := d_meeting_of) (st := topS 32) φ_meeting_of F_meeting_of (He.glo_ok X G (fa_glo (exs := exs) c 20 (f := .glo "meeting_of") rfl)) chk_meeting_of (fun _ _ _ _ _ _ us hl => match us, hl with | [_], _ => rfl) (imp_meeting_of (by rfl) (by rfl))
  have e21 : EOk (glbk P w K mg base 21 Γ21) := e20.grow (nm := "meeting_of") (φ := φ_meeting_of)
  have g22 : GOk (glbk P w K mg base 22 Γ22) := g21.grow (nm := "_law_take") (φ := φTake) (show inFs Γ21 "_law_take" = false by decide +kernel) (He.glo_ok X G (fa_glo (exs := exs) c 22 (f := .glo "_law_take") rfl)) F__law_take.kp (FunD.bindsN (ps := ["draw", "many"]) F__law_take fun _ _ _ _ _ _ us hl => match us, hl with | [_, _], _ => rfl) (ok_take F__law_take (fr_ok (exs := exs) X G c 0 rfl) (fr_ok (exs := exs) X G c 9 rfl))
  have e22 : EOk (glbk P w K mg base 22 Γ22) := e21.grow (nm := "_law_take") (φ := φTake)
  have g23 : GOk (glbk P w K mg base 23 Γ23) := g22.add e22 (d := d__law_pairs_below) (st := topS 36) φ__law_pairs_below F__law_pairs_below (He.glo_ok X G (fa_glo (exs := exs) c 23 (f := .glo "_law_pairs_below") rfl)) chk__law_pairs_below (fun _ _ _ _ _ _ us hl => match us, hl with | [_], _ => rfl) (imp__law_pairs_below)
  have e23 : EOk (glbk P w K mg base 23 Γ23) := e22.grow (nm := "_law_pairs_below") (φ := φ__law_pairs_below)
  have g24 : GOk (glbk P w K mg base 24 Γ24) := g23.add e23 (d := d__law_lowest) (st := topS 37) φ__law_lowest F__law_lowest (He.glo_ok X G (fa_glo (exs := exs) c 24 (f := .glo "_law_lowest") rfl)) chk__law_lowest (fun _ _ _ _ _ _ us hl => match us, hl with | [_, _], _ => rfl) (imp__law_lowest)
  have e24 : EOk (glbk P w K mg base 24 Γ24) := e23.grow (nm := "_law_lowest") (φ := φ__law_lowest)
  have g25 : GOk (glbk P w K mg base 25 Γ25) := g24.add e24 (d := d__law_plus) (st := topS 38) φ__law_plus F__law_plus (He.glo_ok X G (fa_glo (exs := exs) c 25 (f := .glo "_law_plus") rfl)) chk__law_plus (fun _ _ _ _ _ _ us hl => match us, hl with | [_, _], _ => rfl) (imp__law_plus (by rfl))
  have e25 : EOk (glbk P w K mg base 25 Γ25) := e24.grow (nm := "_law_plus") (φ := φ__law_plus)
  have g26 : GOk (glbk P w K mg base 26 Γ26) := g25.add e25 (d := d__law_times) (st := topS 39) φ__law_times F__law_times (He.glo_ok X G (fa_glo (exs := exs) c 26 (f := .glo "_law_times") rfl)) chk__law_times (fun _ _ _ _ _ _ us hl => match us, hl with | [_, _], _ => rfl) (imp__law_times (by rfl))
  have e26 : EOk (glbk P w K mg base 26 Γ26) := e25.grow (nm := "_law_times") (φ := φ__law_times)
  have g27 : GOk (glbk P w K mg base 27 Γ27) := g26.add e26 (d := d__law_less) (st := topS 40) φ__law_less F__law_less (He.glo_ok X G (fa_glo (exs := exs) c 27 (f := .glo "_law_less") rfl)) chk__law_less (fun _ _ _ _ _ _ us hl => match us, hl with | [_, _], _ => rfl) (imp__law_less)
  have e27 : EOk (glbk P w K mg base 27 Γ27) := e26.grow (nm := "_law_less") (φ := φ__law_less)
  have g28 : GOk (glbk P w K mg base 28 Γ28) := g27.add e27 (d := d__law_total) (st := topS 41) φ__law_total F__law_total (He.glo_ok X G (fa_glo (exs := exs) c 28 (f := .glo "_law_total") rfl)) chk__law_total (fun _ _ _ _ _ _ us hl => match us, hl with | [_], _ => rfl) (imp__law_total (by rfl))
  have e28 : EOk (glbk P w K mg base 28 Γ28) := e27.grow (nm := "_law_total") (φ := φ__law_total)
  have g29 : GOk (glbk P w K mg base 29 Γ29) := g28.add e28 (d := d__law_row) (st := topS 42) φ__law_row F__law_row (He.glo_ok X G (fa_glo (exs := exs) c 29 (f := .glo "_law_row") rfl)) chk__law_row (fun _ _ _ _ _ _ us hl => match us, hl with | [_, _], _ => rfl) (imp__law_row (by rfl) (by rfl))
  have e29 : EOk (glbk P w K mg base 29 Γ29) := e28.grow (nm := "_law_row") (φ := φ__law_row)
  have g30 : GOk (glbk P w K mg base 30 Γ30) := g29.add e29 (d := d__law_channel) (st := topS 43) (spW Γ29 d__law_channel) F__law_channel (He.glo_ok X G (fa_glo (exs := exs) c 30 (f := .glo "_law_channel") rfl)) chk__law_channel (fun _ _ _ _ _ _ us hl => match us, hl with | [_, _, _], _ => rfl) (fun _ _ _ q => q)
  have e30 : EOk (glbk P w K mg base 30 Γ30) := e29.grow (nm := "_law_channel") (φ := (spW Γ29 d__law_channel))
  have g31 : GOk (glbk P w K mg base 31 Γ31) := g30.add e30 (d := d__law_gains) (st := topS 44) (spW Γ30 d__law_gains) F__law_gains (He.glo_ok X G (fa_glo (exs := exs) c 31 (f := .glo "_law_gains") rfl)) chk__law_gains (fun _ _ _ _ _ _ us hl => match us, hl with | [_, _, _], _ => rfl) (fun _ _ _ q => q)
  have e31 : EOk (glbk P w K mg base 31 Γ31) := e30.grow (nm := "_law_gains") (φ := (spW Γ30 d__law_gains))
  have g32 : GOk (glbk P w K mg base 32 Γ32) := g31.add e31 (d := d__law_worth) (st := topS 45) (spW Γ31 d__law_worth) F__law_worth (He.glo_ok X G (fa_glo (exs := exs) c 32 (f := .glo "_law_worth") rfl)) chk__law_worth (fun _ _ _ _ _ _ us hl => match us, hl with | [_, _, _], _ => rfl) (fun _ _ _ q => q)
  have e32 : EOk (glbk P w K mg base 32 Γ32) := e31.grow (nm := "_law_worth") (φ := (spW Γ31 d__law_worth))
  have g33 : GOk (glbk P w K mg base 33 Γ33) := g32.add e32 (d := d__law_refused) (st := topS 46) φ__law_refused F__law_refused (He.glo_ok X G (fa_glo (exs := exs) c 33 (f := .glo "_law_refused") rfl)) chk__law_refused (fun _ _ _ _ _ _ us hl => match us, hl with | [_], _ => rfl) (imp__law_refused (by rfl) (show ("NotAllowed" : Str) ∈ exs by decide +kernel))
  have e33 : EOk (glbk P w K mg base 33 Γ33) := e32.grow (nm := "_law_refused") (φ := φ__law_refused)
  have g34 : GOk (glbk P w K mg base 34 Γ34) := g33.add e33 (d := d__law_lines) (st := topS 47) φ__law_lines F__law_lines (He.glo_ok X G (fa_glo (exs := exs) c 34 (f := .glo "_law_lines") rfl)) chk__law_lines (fun _ _ _ _ _ _ us hl => match us, hl with | [_], _ => rfl) (imp__law_lines (by rfl) (show ("NotAllowed" : Str) ∈ exs by decide +kernel))
  have e34 : EOk (glbk P w K mg base 34 Γ34) := e33.grow (nm := "_law_lines") (φ := φ__law_lines)
  have g35 : GOk (glbk P w K mg base 35 Γ35) := g34.add e34 (d := d__law_met) (st := topS 48) φ__law_met F__law_met (He.glo_ok X G (fa_glo (exs := exs) c 35 (f := .glo "_law_met") rfl)) chk__law_met (fun _ _ _ _ _ _ us hl => match us, hl with | [_, _, _], _ => rfl) (imp__law_met (by rfl))
  have e35 : EOk (glbk P w K mg base 35 Γ35) := e34.grow (nm := "_law_met") (φ := φ__law_met)
  have g36 : GOk (glbk P w K mg base 36 Γ36) := g35.add e35 (d := d__law_universal) (st := topS 49) φ__law_universal F__law_universal (He.glo_ok X G (fa_glo (exs := exs) c 36 (f := .glo "_law_universal") rfl)) chk__law_universal (fun _ _ _ _ _ _ us hl => match us, hl with | [_], _ => rfl) (imp__law_universal (by rfl) (by rfl) (by rfl))
  have e36 : EOk (glbk P w K mg base 36 Γ36) := e35.grow (nm := "_law_universal") (φ := φ__law_universal)
  have g37 : GOk (glbk P w K mg base 37 Γ37) := g36.add e36 (d := d__law_independent) (st := topS 50) φ__law_independent F__law_independent (He.glo_ok X G (fa_glo (exs := exs) c 37 (f := .glo "_law_independent") rfl)) chk__law_independent (fun _ _ _ _ _ _ us hl => match us, hl with | [_], _ => rfl) (imp__law_independent (by rfl))
  have e37 : EOk (glbk P w K mg base 37 Γ37) := e36.grow (nm := "_law_independent") (φ := φ__law_independent)
  have g38 : GOk (glbk P w K mg base 38 Γ38) := g37.add e37 (d := d__law_fine) (st := topS 51) φ__law_fine F__law_fine (He.glo_ok X G (fa_glo (exs := exs) c 38 (f := .glo "_law_fine") rfl)) chk__law_fine (fun _ _ _ _ _ _ us hl => match us, hl with | [_, _], _ => rfl) (imp__law_fine ⟨by rfl, by rfl, by rfl, by rfl, by rfl, by rfl, by rfl, by rfl, by rfl, by rfl, by rfl, by rfl, by rfl, by rfl, by rfl, by rfl, by rfl⟩)
  have e38 : EOk (glbk P w K mg base 38 Γ38) := e37.grow (nm := "_law_fine") (φ := φ__law_fine)
  exact law_ok g38 e38 F_law F__law_draw (He.glo_ok X G (fa_glo (exs := exs) c 21 (f := .glo "_law_draw") rfl)) chk_law (FunD.bindsN (ps := ["script"]) F__law_draw fun _ _ _ _ _ _ us hl => match us, hl with | [_], _ => rfl)
    ((ok_draw (k := 0) F__law_draw (fr_ok (exs := exs) X G c 6 rfl) (fr_ok (exs := exs) X G c 9 rfl)).mono (show 1 ≤ 38 by decide)) pure_law
end
end Law
open PySem PySem.W PySem.Calls PyProof.Rows
theorem PySem.Challenge.cw_guessbound_k48_drawn_functions_holds : PySem.Challenge.rw_guessbound_k48_drawn_functions.Holds := by
  w_on; o_law
  refine HandSHeadRun.head_imp (r := OpenLaw.row PySem.Challenge.rw_guessbound_k48_drawn_functions) (q := view (OpenLaw.row PySem.Challenge.rw_guessbound_k48_drawn_functions).prog [0, 52]) (H := Law.hk) (ob := Law.ob) (M := 6000) (loose := Law.loose) (d := HandSHeadRun.topDef (OpenLaw.row PySem.Challenge.rw_guessbound_k48_drawn_functions).prog 52) (kwd := []) Law.ob_eq
    Law.run (by kernel_rfl) (by kernel_rfl) (by kernel_rfl) (by rfl) (by first | assumption | decide +kernel) (by decide +kernel) ⟨rfl, rfl, rfl, rfl, rfl, by decide +kernel⟩ ?hw ?hc
  case hw => w_witness2
  case hc =>
    exact DL.walk_end (l := PySem.Challenge.rw_guessbound_k48_drawn_functions) (n := 39) rfl (by kernel_rfl) (by kernel_rfl) ⟨rfl, by decide, by decide⟩ fun w K h mg f KX G hm c => Law.facts KX G hm c

