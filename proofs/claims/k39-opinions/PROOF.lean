import PyProof.Rows.All
import Wide.All
import OpenK.AllK
import Wide.FinOn
import HandS.ForMost
import HandS.ForExc
import HandS.CallSlots
import HandS.Flow
import HandS.Gcd
import HandS.Wide
import HandS.Walk
import HandS.TupAny
import HandS.TupMul
import HandS.Deep
import HandS.IsInst
import HandS.Conv
import KE.SortData
import KE.KDictKeyed
import KE.KDictWalk
import KE.KDictSum
import HandS.DictTup
import HandS.Keys
import HandS.Zip
import KE.GoesEnum
import KE.GoesZip
import KE.DataFind
import HandS.More
import HandS.HeadHook2
import KE.KStateDown
import HandS.Defaults
import HandS.Head0
import HandS.Head1
import HandS.Head2
import HandS.Head3
import HandS.HeadEnd
import HandS.HeadHook1
import HandS.HeadWalk
import PySem.Challenge.RW_guessbound_k39_opinions_that_cannot_diff
set_option Elab.async false
set_option linter.all false
set_option maxRecDepth 100000
set_option maxHeartbeats 4000000
/-! a data layer over HandS: values as PyData, lists that a frame owns -/
namespace DL
open PySem PySem.Spec PyProof.Rows L2
abbrev D := PyData

/-! ### data in the abstract heap; O: the addresses that some frame may still change -/
/-- a tuple that stands: tracked, or of the written part -/
def StT (K : PySem.W.Frag) (O : Addr → Prop) (H : Hp) (a : Addr) (xs : List V) : Prop := (H a = some (.tup xs) ∧ ¬ O a) ∨ SqT K (fun _ => none) a xs
theorem StT.sq {K : PySem.W.Frag} {O : Addr → Prop} {H : Hp} {a : Addr} {xs : List V} (h : StT K O H a xs) : SqT K H a xs := by
  rcases h with h | (h | ⟨o, h⟩) | h
  · exact .inl (.inl h.1)
  · cases h
  · cases h
  · exact .inr h
mutual
inductive Dr (K : PySem.W.Frag) (O : Addr → Prop) (H : Hp) : V → D → Prop
  | non : Dr K O H .non .none
  | bl (b : Bool) : Dr K O H (.bl b) (.bool b)
  | int (i : Int) : Dr K O H (.int i) (.int i)
  | str (x : Str) : Dr K O H (.str x) (.str x)
  | lst {a : Addr} {xs : List V} {ds : List D} : H a = some (.lst xs) → ¬ O a → DrA K O H xs ds → Dr K O H (.ref a) (.list ds)
  | tup {a : Addr} {xs : List V} {ds : List D} : StT K O H a xs → DrA K O H xs ds → Dr K O H (.ref a) (.tuple ds)
inductive DrA (K : PySem.W.Frag) (O : Addr → Prop) (H : Hp) : List V → List D → Prop
  | nil : DrA K O H [] []
  | cons {v : V} {vs : List V} {d : D} {ds : List D} : Dr K O H v d → DrA K O H vs ds → DrA K O H (v :: vs) (d :: ds)
end
section
variable {K : PySem.W.Frag} {O O' : Addr → Prop} {H H' : Hp}
theorem StT.stay {a : Addr} {xs : List V} (h : StT K O H a xs) (kO : ∀ a o, H a = some o → ¬ O a → ¬ O' a) (k : ∀ o, ¬ O a → H a = some o → H' a = some o) : StT K O' H' a xs := by
  rcases h with h | h
  · exact .inl ⟨k _ h.2 h.1, kO _ _ h.1 h.2⟩
  · exact .inr h
mutual
/-- data stay while the heap keeps what no frame may change -/
theorem Dr.stay (kO : ∀ a o, H a = some o → ¬ O a → ¬ O' a) (k : ∀ b o, ¬ O b → H b = some o → H' b = some o) : ∀ (d : D) (v : V), Dr K O H v d → Dr K O' H' v d
  | .none, _, h => by cases h; exact .non
  | .bool _, _, h => by cases h; exact .bl _
  | .int _, _, h => by cases h; exact .int _
  | .str _, _, h => by cases h; exact .str _
  | .list ds, _, h => by
    cases h with
    | lst h1 h2 h3 => exact .lst (k _ _ h2 h1) (kO _ _ h1 h2) (DrA.stay kO k ds _ h3)
  | .tuple ds, _, h => by
    cases h with
    | tup h1 h3 => exact .tup (StT.stay h1 kO fun o n e => k _ o n e) (DrA.stay kO k ds _ h3)
  | .dict _, _, h => by cases h
theorem DrA.stay (kO : ∀ a o, H a = some o → ¬ O a → ¬ O' a) (k : ∀ b o, ¬ O b → H b = some o → H' b = some o) : ∀ (ds : List D) (vs : List V), DrA K O H vs ds → DrA K O' H' vs ds
  | [], _, h => by cases h; exact .nil
  | d :: ds, _, h => by
    cases h with
    | cons h1 h2 => exact .cons (Dr.stay kO k d _ h1) (DrA.stay kO k ds _ h2)
end
mutual
theorem Dr.dp : ∀ (d : D) (v : V), Dr K O H v d → Dp K H v d
  | .none, _, h => by cases h; exact .non
  | .bool _, _, h => by cases h; exact .bl _
  | .int _, _, h => by cases h; exact .int _
  | .str _, _, h => by cases h; exact .str _
  | .list ds, _, h => by
    cases h with
    | lst h1 h2 h3 => exact .lst (SqL.of h1) (DrA.dp ds _ h3)
  | .tuple ds, _, h => by
    cases h with
    | tup h1 h3 => exact .tup h1.sq (DrA.dp ds _ h3)
  | .dict _, _, h => by cases h
theorem DrA.dp : ∀ (ds : List D) (vs : List V), DrA K O H vs ds → DpAll K H vs ds
  | [], _, h => by cases h; exact .nil
  | d :: ds, _, h => by
    cases h with
    | cons h1 h2 => exact .cons (Dr.dp d _ h1) (DrA.dp ds _ h2)
end
theorem DrA.length : ∀ {ds : List D} {vs : List V}, DrA K O H vs ds → vs.length = ds.length
  | [], _, h => by cases h; rfl
  | _ :: _, _, h => by
    cases h with
    | cons _ h2 => exact congrArg (· + 1) (DrA.length h2)
theorem DrA.get : ∀ {ds : List D} {vs : List V} {i : Nat} {v : V}, DrA K O H vs ds → vs[i]? = some v → ∃ d, ds[i]? = some d ∧ Dr K O H v d
  | [], _, _, _, h, e => by cases h; simp at e
  | d :: ds, _, 0, _, h, e => by
    cases h with
    | cons h1 _ => simp at e; subst e; exact ⟨d, rfl, h1⟩
  | d :: ds, _, i + 1, _, h, e => by
    cases h with
    | cons _ h2 => exact DrA.get (i := i) h2 (by simpa using e)
theorem DrA.at : ∀ {ds : List D} {vs : List V} {i : Nat} {d : D}, DrA K O H vs ds → ds[i]? = some d → ∃ v, vs[i]? = some v ∧ Dr K O H v d
  | [], _, _, _, h, e => by simp at e
  | _ :: ds, _, 0, _, h, e => by
    cases h with
    | cons h1 _ => simp at e; subst e; exact ⟨_, rfl, h1⟩
  | _ :: ds, _, i + 1, _, h, e => by
    cases h with
    | cons _ h2 => exact DrA.at (i := i) h2 (by simpa using e)
theorem DrA.append : ∀ {ds es : List D} {vs ws : List V}, DrA K O H vs ds → DrA K O H ws es → DrA K O H (vs ++ ws) (ds ++ es)
  | [], _, _, _, h, g => by cases h; exact g
  | _ :: _, _, _, _, h, g => by
    cases h with
    | cons h1 h2 => exact .cons h1 (DrA.append h2 g)
theorem DrA.take : ∀ {ds : List D} {vs : List V} (n : Nat), DrA K O H vs ds → DrA K O H (vs.take n) (ds.take n)
  | [], _, n, h => by cases h; simp; exact .nil
  | _ :: _, _, 0, h => .nil
  | _ :: _, _, n + 1, h => by
    cases h with
    | cons h1 h2 => exact .cons h1 (DrA.take n h2)
theorem DrA.drop : ∀ {ds : List D} {vs : List V} (n : Nat), DrA K O H vs ds → DrA K O H (vs.drop n) (ds.drop n)
  | [], _, n, h => by cases h; simp; exact .nil
  | _ :: _, _, 0, h => h
  | _ :: _, _, n + 1, h => by
    cases h with
    | cons h1 h2 => exact DrA.drop n h2
theorem DrA.set : ∀ {ds : List D} {vs : List V} {v : V} {d : D} (i : Nat), DrA K O H vs ds → Dr K O H v d → DrA K O H (vs.set i v) (ds.set i d)
  | [], _, _, _, _, h, g => by cases h; exact .nil
  | _ :: _, _, _, _, 0, h, g => by
    cases h with
    | cons h1 h2 => exact .cons g h2
  | _ :: _, _, _, _, i + 1, h, g => by
    cases h with
    | cons h1 h2 => exact .cons h1 (DrA.set i h2 g)
theorem DrA.eraseIdx : ∀ {ds : List D} {vs : List V} (i : Nat), DrA K O H vs ds → DrA K O H (vs.eraseIdx i) (ds.eraseIdx i)
  | [], _, _, h => by cases h; exact .nil
  | _ :: _, _, 0, h => by
    cases h with
    | cons h1 h2 => exact h2
  | _ :: _, _, i + 1, h => by
    cases h with
    | cons h1 h2 => exact .cons h1 (DrA.eraseIdx i h2)
theorem DrA.ints : ∀ {ns : List Int} {vs : List V}, DrA K O H vs (ns.map PyData.int) → vs = ns.map V.int
  | [], _, h => by cases h; rfl
  | n :: ns, _, h => by
    cases h with
    | cons h1 h2 =>
      cases h1
      rw [DrA.ints h2]
      rfl
theorem DrA.bools : ∀ {ns : List Bool} {vs : List V}, DrA K O H vs (ns.map PyData.bool) → vs = ns.map V.bl
  | [], _, h => by cases h; rfl
  | n :: ns, _, h => by
    cases h with
    | cons h1 h2 =>
      cases h1
      rw [DrA.bools h2]
      rfl
theorem DrA.of_ints : ∀ {ns : List Int}, DrA K O H (ns.map V.int) (ns.map PyData.int)
  | [] => .nil
  | n :: ns => .cons (.int n) DrA.of_ints
theorem DrA.reverse : ∀ {ds : List D} {vs : List V}, DrA K O H vs ds → DrA K O H vs.reverse ds.reverse
  | [], _, h => by cases h; exact .nil
  | _ :: _, _, h => by
    cases h with
    | cons h1 h2 =>
      rw [List.reverse_cons, List.reverse_cons]
      exact DrA.append (DrA.reverse h2) (.cons h1 .nil)
end

/-! ### what a value of an expression is known by: data, or a list that the frame owns -/
def BDr (K : PySem.W.Frag) (N : Addr → Prop) (O : Addr → Prop) (H : Hp) (v : V) (d : D) : Prop :=
  Dr K O H v d ∨ ∃ a xs ds, v = .ref a ∧ d = .list ds ∧ ¬ N a ∧ H a = some (.lst xs) ∧ DrA K O H xs ds
section
variable {K : PySem.W.Frag} {N : Addr → Prop} {O O' : Addr → Prop} {H H' : Hp}
theorem BDr.lst {v : V} {ds : List D} (h : BDr K N O H v (.list ds)) : ∃ a xs, v = .ref a ∧ H a = some (.lst xs) ∧ DrA K O H xs ds := by
  rcases h with h | ⟨a, xs, ds', rfl, e, _, h1, h2⟩
  · cases h with
    | lst h1 h2 h3 => exact ⟨_, _, rfl, h1, h3⟩
  · cases e; exact ⟨_, _, rfl, h1, h2⟩
theorem BDr.tup {v : V} {ds : List D} (h : BDr K N O H v (.tuple ds)) : ∃ a xs, v = .ref a ∧ SqT K H a xs ∧ DrA K O H xs ds := by
  rcases h with h | ⟨a, xs, ds', rfl, e, _, h1, h2⟩
  · cases h with
    | tup h1 h3 => exact ⟨_, _, rfl, h1.sq, h3⟩
  · cases e
theorem BDr.int {v : V} {i : Int} (h : BDr K N O H v (.int i)) : v = .int i := by
  rcases h with h | ⟨a, xs, ds', rfl, e, _, h1, h2⟩
  · cases h; rfl
  · cases e
theorem BDr.bl {v : V} {i : Bool} (h : BDr K N O H v (.bool i)) : v = .bl i := by
  rcases h with h | ⟨a, xs, ds', rfl, e, _, h1, h2⟩
  · cases h; rfl
  · cases e
theorem BDr.str {v : V} {i : Str} (h : BDr K N O H v (.str i)) : v = .str i := by
  rcases h with h | ⟨a, xs, ds', rfl, e, _, h1, h2⟩
  · cases h; rfl
  · cases e
theorem BDr.non {v : V} (h : BDr K N O H v .none) : v = .non := by
  rcases h with h | ⟨a, xs, ds', rfl, e, _, h1, h2⟩
  · cases h; rfl
  · cases e
theorem BDr.dict {v : V} {kvs : List (D × D)} (h : BDr K N O H v (.dict kvs)) : False := by
  rcases h with h | ⟨a, xs, ds', rfl, e, _, h1, h2⟩
  · cases h
  · cases e
theorem BDr.of {v : V} {d : D} (h : Dr K O H v d) : BDr K N O H v d := .inl h
theorem BDr.dp {v : V} {d : D} (h : BDr K N O H v d) : Dp K H v d := by
  rcases h with h | ⟨a, xs, ds, rfl, rfl, _, h1, h2⟩
  · exact Dr.dp _ _ h
  · exact .lst (SqL.of h1) (DrA.dp _ _ h2)
theorem BDr.notNone {v : V} {d : D} (h : BDr K N O H v d) : (v = .non) ↔ (d = .none) := by
  constructor
  · rintro rfl
    rcases h with h | ⟨a, xs, ds, e, _⟩
    · cases h; rfl
    · cases e
  · rintro rfl
    exact h.non
end
end DL

set_option Elab.async false
set_option linter.all false
set_option maxRecDepth 100000
set_option maxHeartbeats 4000000
namespace DL
open PySem PySem.Spec PyProof.Rows L2

/-! ### what a step at values hands back -/
def Dom (O : Addr → Prop) (H : Hp) : Prop := ∀ a, O a → ∃ o, H a = some o
/-- a list that comes back is a new one -/
def Fr1 (K : PySem.W.Frag) (O : Addr → Prop) (H H' : Hp) (v : V) (r : D) : Prop :=
  ∀ ds, r = .list ds → ∃ p xs, v = .ref p ∧ H p = none ∧ H' p = some (.lst xs) ∧ DrA K (fun a => O a ∨ a = p) H' xs ds
def Ans (K : PySem.W.Frag) (O : Addr → Prop) (H : Hp) (Q : VK) (r : D) : Prop := ∀ v H', Same H H' → Dr K O H' v r → Q v H'
def AnsF (K : PySem.W.Frag) (O : Addr → Prop) (H : Hp) (Q : VK) (r : D) : Prop := ∀ v H', Same H H' → Dr K O H' v r → Fr1 K O H H' v r → Q v H'
theorem AnsF.of {K : PySem.W.Frag} {O : Addr → Prop} {H : Hp} {Q : VK} {r : D} (h : Ans K O H Q r) : AnsF K O H Q r := fun v H' s d _ => h v H' s d
section
variable {K : PySem.W.Frag} {N : Addr → Prop} {O : Addr → Prop} {H H' : Hp} {Q : VK}
theorem Dom.fresh (d : Dom O H) {p : Addr} (h : H p = none) : ¬ O p := fun o => by
  obtain ⟨x, e⟩ := d p o
  rw [h] at e; cases e
theorem same_upd {p : Addr} {o : HO} (h : H p = none) : Same H (upd H p o) := fun b x e => by
  rw [upd_ne (ne_of_none e h)]
  exact e
theorem Dr.same {v : V} {d : D} (h : Dr K O H v d) (s : Same H H') : Dr K O H' v d := Dr.stay (fun _ _ _ n => n) (fun b o _ e => s b o e) d v h
theorem DrA.same {vs : List V} {ds : List D} (h : DrA K O H vs ds) (s : Same H H') : DrA K O H' vs ds := DrA.stay (fun _ _ _ n => n) (fun b o _ e => s b o e) ds vs h
theorem BDr.same {v : V} {d : D} (h : BDr K N O H v d) (s : Same H H') : BDr K N O H' v d := by
  rcases h with h | ⟨a, xs, ds, rfl, rfl, n, h1, h2⟩
  · exact .inl (h.same s)
  · exact .inr ⟨a, xs, ds, rfl, rfl, n, s _ _ h1, h2.same s⟩
/-- data that stand do not reach a new place -/
theorem DrA.more {vs : List V} {ds : List D} {p : Addr} (h : DrA K O H vs ds) (hp : H p = none) : DrA K (fun a => O a ∨ a = p) H vs ds :=
  DrA.stay (fun a o e n q => by
    rcases q with q | q
    · exact n q
    · rw [q, hp] at e; cases e) (fun _ _ _ e => e) ds vs h
theorem Dr.more {v : V} {d : D} {p : Addr} (h : Dr K O H v d) (hp : H p = none) : Dr K (fun a => O a ∨ a = p) H v d :=
  Dr.stay (fun a o e n q => by
    rcases q with q | q
    · exact n q
    · rw [q, hp] at e; cases e) (fun _ _ _ e => e) d v h
theorem Fr1.no {v : V} {r : D} (h : ∀ ds, r ≠ .list ds) : Fr1 K O H H' v r := fun ds e => absurd e (h ds)
theorem AnsF.int {i : Int} (q : AnsF K O H Q (.int i)) : Q (.int i) H := q _ _ (Same.refl H) (.int i) (.no fun _ => nofun)
theorem AnsF.bl {i : Bool} (q : AnsF K O H Q (.bool i)) : Q (.bl i) H := q _ _ (Same.refl H) (.bl i) (.no fun _ => nofun)
theorem AnsF.str {i : Str} (q : AnsF K O H Q (.str i)) : Q (.str i) H := q _ _ (Same.refl H) (.str i) (.no fun _ => nofun)
theorem AnsF.non (q : AnsF K O H Q .none) : Q .non H := q _ _ (Same.refl H) .non (.no fun _ => nofun)
theorem AnsF.same {r : D} {v : V} (q : AnsF K O H Q r) (h : Dr K O H v r) (n : ∀ ds, r ≠ .list ds) : Q v H := q _ _ (Same.refl H) h (.no n)
theorem AnsF.lst {ds : List D} {xs : List V} (q : AnsF K O H Q (.list ds)) (dm : Dom O H) (h : DrA K O H xs ds) : ∀ p, H p = none → Q (.ref p) (upd H p (.lst xs)) := fun p np =>
  q _ _ (same_upd np) (.lst upd_same (dm.fresh np) (h.same (same_upd np))) fun ds' e => by
    cases e
    exact ⟨p, xs, rfl, np, upd_same, (h.more np).same (same_upd np)⟩
theorem AnsF.tup {ds : List D} {xs : List V} (q : AnsF K O H Q (.tuple ds)) (dm : Dom O H) (h : DrA K O H xs ds) : ∀ p, H p = none → Q (.ref p) (upd H p (.tup xs)) := fun p np =>
  q _ _ (same_upd np) (.tup (.inl ⟨upd_same, dm.fresh np⟩) (h.same (same_upd np))) (.no fun _ => nofun)
end
theorem BDr.tupDr {K : PySem.W.Frag} {N : Addr → Prop} {O : Addr → Prop} {H : Hp} {v : V} {ds : List D} (h : BDr K N O H v (.tuple ds)) : Dr K O H v (.tuple ds) := by
  rcases h with z | ⟨_, _, _, _, e, _⟩
  · exact z
  · cases e
/-! ### the operators, over data -/
def dMulOk (i j : Int) : Prop := i.natAbs.log2 + j.natAbs.log2 < 1000000
def dDivOk (j : Int) : Prop := j ≠ 0 ∧ j.natAbs.log2 < 9000
def repD (k : Int) (ds : List D) : List D := (List.replicate k.toNat ds).flatten
def dAdd : D → D → (D → Prop) → Prop
  | .int i, .int j, Q => Q (.int (i + j))
  | .list a, .list b, Q => a.length + b.length ≤ sizeLine ∧ Q (.list (a ++ b))
  | .tuple a, .tuple b, Q => a.length + b.length ≤ sizeLine ∧ Q (.tuple (a ++ b))
  | .str a, .str b, Q => a.length + b.length ≤ sizeLine ∧ Q (.str (a ++ b))
  | _, _, _ => False
def dSub : D → D → (D → Prop) → Prop
  | .int i, .int j, Q => Q (.int (i - j))
  | .bool p, .bool q, Q => Q (.int (PyProof.Rows.b2i p - PyProof.Rows.b2i q))
  | _, _, _ => False
def dMul : D → D → (D → Prop) → Prop
  | .int i, .int j, Q => dMulOk i j ∧ Q (.int (i * j))
  | .list a, .int k, Q => -(2 ^ 63) ≤ k ∧ k < 2 ^ 63 ∧ a.length * k.toNat ≤ sizeLine ∧ Q (.list (repD k a))
  | .tuple a, .int k, Q => a ≠ [] ∧ 2 ≤ k ∧ k ≤ 1000 ∧ a.length ≤ 1000 ∧ Q (.tuple (repD k a))
  | _, _, _ => False
def dMod : D → D → (D → Prop) → Prop
  | .int i, .int j, Q => j ≠ 0 ∧ Q (.int (i.fmod j))
  | _, _, _ => False
def dDiv : D → D → (D → Prop) → Prop
  | .int i, .int j, Q => dDivOk j ∧ Q (.int (i.fdiv j))
  | _, _, _ => False
def R2D (K : PySem.W.Frag) (f : D → D → (D → Prop) → Prop) : R2 := fun x y H Q => ∃ N O d e, Dom O H ∧ BDr K N O H x d ∧ BDr K N O H y e ∧ ∃ P, f d e P ∧ ∀ r, P r → AnsF K O H Q r
section
variable {X : Cx}
theorem DrA.rep {K : PySem.W.Frag} {O : Addr → Prop} {H : Hp} {xs : List V} {ds : List D} (h : DrA K O H xs ds) : ∀ k : Nat, DrA K O H (List.replicate k xs).flatten (List.replicate k ds).flatten
  | 0 => .nil
  | k + 1 => by
    rw [List.replicate_succ, List.replicate_succ, List.flatten_cons, List.flatten_cons]
    exact h.append (DrA.rep h k)
theorem op_dAdd : OpR X (binaryOp .Add) (R2D X.K dAdd) := by
  intro pins s σ H x y v u Q I rx ry h
  obtain ⟨N, O, d, e, dm, hx, hy, P, q, hP⟩ := h
  unfold dAdd at q
  split at q
  · rw [hx.int] at rx; rw [hy.int] at ry
    exact op_add pins s σ H _ _ v u Q I rx ry ⟨_, _, rfl, rfl, (hP _ q).int⟩
  · obtain ⟨a, xs, rfl, h1, h2⟩ := hx.lst
    obtain ⟨b, ys, rfl, h3, h4⟩ := hy.lst
    exact op_cat pins s σ H _ _ v u Q I rx ry ⟨a, b, xs, ys, rfl, rfl, h1, h3, by rw [h2.length, h4.length]; exact q.1, (hP _ q.2).lst dm (h2.append h4)⟩
  · obtain ⟨a, xs, rfl, h1, h2⟩ := hx.tup
    obtain ⟨b, ys, rfl, h3, h4⟩ := hy.tup
    have hxa := hx.tupDr
    have hyb := hy.tupDr
    refine op_catA pins s σ H _ _ v u Q I rx ry ⟨a, b, xs, ys, rfl, rfl, h1, h3, by rw [h2.length, h4.length]; exact q.1, fun e => ?_, fun _ e => ?_, fun _ _ => (hP _ q.2).tup dm (h2.append h4)⟩
    · subst e
      have e2 := h2.length
      have e3 := List.eq_nil_of_length_eq_zero e2.symm
      subst e3
      exact (hP _ q.2).same hyb fun _ => nofun
    · subst e
      have e2 := h4.length
      have e3 := List.eq_nil_of_length_eq_zero e2.symm
      subst e3
      rw [List.append_nil] at q
      exact (hP _ q.2).same hxa fun _ => nofun
  · rw [hx.str] at rx; rw [hy.str] at ry
    exact op_add_str pins s σ H _ _ v u Q I rx ry ⟨_, _, rfl, rfl, q.1, (hP _ q.2).str⟩
  · exact q.elim
theorem op_dSub : OpR X (binaryOp .Sub) (R2D X.K dSub) := by
  intro pins s σ H x y v u Q I rx ry h
  obtain ⟨N, O, d, e, dm, hx, hy, P, q, hP⟩ := h
  unfold dSub at q
  split at q
  · rw [hx.int] at rx; rw [hy.int] at ry
    exact op_sub pins s σ H _ _ v u Q I rx ry ⟨_, _, rfl, rfl, (hP _ q).int⟩
  · rw [hx.bl] at rx; rw [hy.bl] at ry
    cases rx
    cases ry
    exact PyProof.Rows.sub_bool ⟨.int _, H, I.tok _, ⟨_, rfl⟩, (hP _ q).int⟩
  · exact q.elim
theorem op_dMul : OpR X (binaryOp .Mult) (R2D X.K dMul) := by
  intro pins s σ H x y v u Q I rx ry h
  obtain ⟨N, O, d, e, dm, hx, hy, P, q, hP⟩ := h
  unfold dMul at q
  split at q
  · rw [hx.int] at rx; rw [hy.int] at ry
    exact op_mulW pins s σ H _ _ v u Q I rx ry ⟨_, _, rfl, rfl, q.1, (hP _ q.2).int⟩
  · obtain ⟨a, xs, rfl, h1, h2⟩ := hx.lst
    rw [hy.int] at ry
    exact op_rep pins s σ H _ _ v u Q I rx ry ⟨a, _, xs, rfl, rfl, h1, q.1, q.2.1, by rw [h2.length]; exact q.2.2.1, (hP _ q.2.2.2).lst dm (h2.rep _)⟩
  · obtain ⟨a, xs, rfl, h1, h2⟩ := hx.tup
    rw [hy.int] at ry
    have hne : xs ≠ [] := fun z => q.1 (by
      rw [z] at h2
      exact List.eq_nil_of_length_eq_zero h2.length.symm)
    exact op_repT pins s σ H _ _ v u Q I rx ry ⟨a, _, xs, rfl, rfl, h1, hne, q.2.1, q.2.2.1, by rw [h2.length]; exact q.2.2.2.1, (hP _ q.2.2.2.2).tup dm (h2.rep _)⟩
  · exact q.elim
theorem op_dMod : OpR X (binaryOp .Mod) (R2D X.K dMod) := by
  intro pins s σ H x y v u Q I rx ry h
  obtain ⟨N, O, d, e, dm, hx, hy, P, q, hP⟩ := h
  unfold dMod at q
  split at q
  · rw [hx.int] at rx; rw [hy.int] at ry
    exact op_modN pins s σ H _ _ v u Q I rx ry ⟨_, _, rfl, rfl, q.1, (hP _ q.2).int⟩
  · exact q.elim
theorem op_fdivA : OpR X (binaryOp .FloorDiv) (rI (fun _ j => dDivOk j) fun i j => .int (i.fdiv j)) :=
  opI fun _ _ _ _ _ _ _ hc q => floordiv_int hc.1 q (.inl (PyProof.noPylong_of_log2 hc.2))
theorem op_dDiv : OpR X (binaryOp .FloorDiv) (R2D X.K dDiv) := by
  intro pins s σ H x y v u Q I rx ry h
  obtain ⟨N, O, d, e, dm, hx, hy, P, q, hP⟩ := h
  unfold dDiv at q
  split at q
  · rw [hx.int] at rx; rw [hy.int] at ry
    exact op_fdivA pins s σ H _ _ v u Q I rx ry ⟨_, _, rfl, rfl, q.1, (hP _ q.2).int⟩
  · exact q.elim
/-! comparisons -/
def shp (d : D) : Prop := SeqAt.shaped d = true
def dEq (d e : D) (Q : D → Prop) : Prop := shp d ∧ shp e ∧ Q (.bool (PyData.eqv d e))
def dNe (d e : D) (Q : D → Prop) : Prop := shp d ∧ shp e ∧ Q (.bool (!PyData.eqv d e))
def dLt : D → D → (D → Prop) → Prop
  | .int i, .int j, Q => Q (.bool (decide (i < j)))
  | _, _, _ => False
def dLe : D → D → (D → Prop) → Prop
  | .int i, .int j, Q => Q (.bool (decide (i ≤ j)))
  | _, _, _ => False
def dGt : D → D → (D → Prop) → Prop
  | .int i, .int j, Q => Q (.bool (decide (j < i)))
  | _, _, _ => False
def dGe : D → D → (D → Prop) → Prop
  | .int i, .int j, Q => Q (.bool (decide (j ≤ i)))
  | _, _, _ => False
def isNone : D → Bool
  | .none => true
  | _ => false
def dIs : D → D → (D → Prop) → Prop
  | d, .none, Q => Q (.bool (isNone d))
  | _, _, _ => False
def dIsnt : D → D → (D → Prop) → Prop
  | d, .none, Q => Q (.bool (!isNone d))
  | _, _, _ => False
theorem isNone_of {K : PySem.W.Frag} {N : Addr → Prop} {O : Addr → Prop} {H : Hp} {v : V} {d : D} (h : BDr K N O H v d) : decide (v = .non) = isNone d := by
  rcases h with h | ⟨a, xs, ds, rfl, rfl, _, h1, h2⟩
  · cases h <;> simp [isNone]
  · simp [isNone]
theorem op_dEq (hu : X.A.units + 64 < cLine) : OpR X (compareOp .Eq) (R2D X.K dEq) := by
  intro pins s σ H x y v u Q I rx ry h
  obtain ⟨N, O, d, e, dm, hx, hy, P, q, hP⟩ := h
  exact op_eqD hu pins s σ H _ _ v u Q I rx ry ⟨d, e, hx.dp, hy.dp, q.1, q.2.1, (hP _ q.2.2).bl⟩
theorem op_dNe (hu : X.A.units + 64 < cLine) : OpR X (compareOp .NotEq) (R2D X.K dNe) := by
  intro pins s σ H x y v u Q I rx ry h
  obtain ⟨N, O, d, e, dm, hx, hy, P, q, hP⟩ := h
  exact op_neD hu pins s σ H _ _ v u Q I rx ry ⟨d, e, hx.dp, hy.dp, q.1, q.2.1, (hP _ q.2.2).bl⟩
theorem op_dLt : OpR X (compareOp .Lt) (R2D X.K dLt) := by
  intro pins s σ H x y v u Q I rx ry h
  obtain ⟨N, O, d, e, dm, hx, hy, P, q, hP⟩ := h
  unfold dLt at q
  split at q
  · rw [hx.int] at rx; rw [hy.int] at ry
    exact op_lt pins s σ H _ _ v u Q I rx ry ⟨_, _, rfl, rfl, (hP _ q).bl⟩
  · exact q.elim
theorem op_dLe : OpR X (compareOp .LtE) (R2D X.K dLe) := by
  intro pins s σ H x y v u Q I rx ry h
  obtain ⟨N, O, d, e, dm, hx, hy, P, q, hP⟩ := h
  unfold dLe at q
  split at q
  · rw [hx.int] at rx; rw [hy.int] at ry
    exact op_le pins s σ H _ _ v u Q I rx ry ⟨_, _, rfl, rfl, (hP _ q).bl⟩
  · exact q.elim
theorem op_dGt : OpR X (compareOp .Gt) (R2D X.K dGt) := by
  intro pins s σ H x y v u Q I rx ry h
  obtain ⟨N, O, d, e, dm, hx, hy, P, q, hP⟩ := h
  unfold dGt at q
  split at q
  · rw [hx.int] at rx; rw [hy.int] at ry
    exact op_gt pins s σ H _ _ v u Q I rx ry ⟨_, _, rfl, rfl, (hP _ q).bl⟩
  · exact q.elim
theorem op_dGe : OpR X (compareOp .GtE) (R2D X.K dGe) := by
  intro pins s σ H x y v u Q I rx ry h
  obtain ⟨N, O, d, e, dm, hx, hy, P, q, hP⟩ := h
  unfold dGe at q
  split at q
  · rw [hx.int] at rx; rw [hy.int] at ry
    exact op_ge pins s σ H _ _ v u Q I rx ry ⟨_, _, rfl, rfl, (hP _ q).bl⟩
  · exact q.elim
theorem op_dIs : OpR X (compareOp .Is) (R2D X.K dIs) := by
  intro pins s σ H x y v u Q I rx ry h
  obtain ⟨N, O, d, e, dm, hx, hy, P, q, hP⟩ := h
  unfold dIs at q
  split at q
  · exact op_isN pins s σ H _ _ v u Q I rx ry ⟨hy.non, by rw [isNone_of hx]; exact (hP _ q).bl⟩
  · exact q.elim
theorem op_dIsnt : OpR X (compareOp .IsNot) (R2D X.K dIsnt) := by
  intro pins s σ H x y v u Q I rx ry h
  obtain ⟨N, O, d, e, dm, hx, hy, P, q, hP⟩ := h
  unfold dIsnt at q
  split at q
  · exact op_notN pins s σ H _ _ v u Q I rx ry ⟨hy.non, by rw [isNone_of hx]; exact (hP _ q).bl⟩
  · exact q.elim
end
end DL

set_option Elab.async false
set_option linter.all false
set_option maxRecDepth 100000
set_option maxHeartbeats 4000000
namespace DL
open PySem PySem.Spec PyProof.Rows L2

/-! ### built-in functions, over data -/
abbrev BDrA (K : PySem.W.Frag) (N : Addr → Prop) (O : Addr → Prop) (H : Hp) : List V → List D → Prop := Paired (BDr K N O H)
abbrev FD := List D → (D → Prop) → Prop
def RCD (K : PySem.W.Frag) (f : FD) : List V → Hp → VK → Prop := fun vs H Q => ∃ N O ds, Dom O H ∧ BDrA K N O H vs ds ∧ ∃ P, f ds P ∧ ∀ r, P r → AnsF K O H Q r
def intsOf : List D → Option (List Int)
  | [] => some []
  | .int i :: r => (intsOf r).map (i :: ·)
  | _ => none
def boolsOf : List D → Option (List Bool)
  | [] => some []
  | .bool i :: r => (boolsOf r).map (i :: ·)
  | _ => none
theorem intsOf_eq : ∀ {ds : List D} {ns : List Int}, intsOf ds = some ns → ds = ns.map PyData.int
  | [], ns, h => by simp [intsOf] at h; subst h; rfl
  | d :: r, ns, h => by
    cases d with
    | int i =>
      simp only [intsOf, Option.map_eq_some_iff] at h
      obtain ⟨m, h1, rfl⟩ := h
      rw [intsOf_eq h1]; rfl
    | _ => simp [intsOf] at h
theorem boolsOf_eq : ∀ {ds : List D} {ns : List Bool}, boolsOf ds = some ns → ds = ns.map PyData.bool
  | [], ns, h => by simp [boolsOf] at h; subst h; rfl
  | d :: r, ns, h => by
    cases d with
    | bool i =>
      simp only [boolsOf, Option.map_eq_some_iff] at h
      obtain ⟨m, h1, rfl⟩ := h
      rw [boolsOf_eq h1]; rfl
    | _ => simp [boolsOf] at h
@[simp] theorem intsOf_map : ∀ ns : List Int, intsOf (ns.map PyData.int) = some ns
  | [] => rfl
  | n :: r => by simp [intsOf, intsOf_map r]
@[simp] theorem boolsOf_map : ∀ ns : List Bool, boolsOf (ns.map PyData.bool) = some ns
  | [] => rfl
  | n :: r => by simp [boolsOf, boolsOf_map r]
def optQ {α : Type} (o : Option α) (Q : α → Prop) : Prop := match o with
  | some a => Q a
  | none => False
theorem optQ_iff {α : Type} {o : Option α} {Q : α → Prop} (h : optQ o Q) : ∃ a, o = some a ∧ Q a := by
  cases o with
  | none => exact h.elim
  | some a => exact ⟨a, rfl, h⟩
def dLen : FD
  | [.list ds], Q => Q (.int ds.length)
  | [.tuple ds], Q => Q (.int ds.length)
  | [.str z], Q => z.length ≤ sizeLine ∧ Q (.int z.length)
  | _, _ => False
def dTuple : FD
  | [.list ds], Q => Q (.tuple ds)
  | [.tuple ds], Q => Q (.tuple ds)
  | _, _ => False
def dList : FD
  | [.list ds], Q => Q (.list ds)
  | [.tuple ds], Q => Q (.list ds)
  | _, _ => False
def dSum : FD
  | [.list ds], Q => optQ (intsOf ds) fun ns => Q (.int ns.sum)
  | _, _ => False
def dAny : FD
  | [.list ds], Q => optQ (boolsOf ds) fun ns => Q (.bool (ns.any id))
  | _, _ => False
def dAll : FD
  | [.list ds], Q => optQ (boolsOf ds) fun ns => Q (.bool (ns.all id))
  | _, _ => False
def dAbs : FD
  | [.int i], Q => Q (.int i.natAbs)
  | _, _ => False
def dMin2 : FD
  | [.int i, .int j], Q => Q (.int (if j < i then j else i))
  | _, _ => False
def dMax2 : FD
  | [.int i, .int j], Q => Q (.int (if j > i then j else i))
  | _, _ => False
def dInt : FD
  | [.int i], Q => Q (.int i)
  | [.bool b], Q => Q (.int (if b then 1 else 0))
  | _, _ => False
def dGcd : FD
  | [.int i, .int j], Q => Q (.int (Nat.gcd i.natAbs j.natAbs : Nat))
  | _, _ => False
def dStr : FD
  | [.int i], Q => i.natAbs.log2 < 1920 ∧ Q (.str (toString i))
  | _, _ => False
abbrev ltD : D → D → Bool := PySem.W.dataLe false id
def sortD (ds : List D) : List D := ds.mergeSort ltD
def sortOk (ds : List D) : Prop := PySem.W.AllAlike ds ∧ PySem.W.Sortable ds ∧ ds.length ≤ sizeLine ∧ ∀ d ∈ ds, d.depth ≤ 64
def dSorted : FD
  | [.list ds], Q => sortOk ds ∧ Q (.list (sortD ds))
  | _, _ => False
section
variable {X : Cx}
theorem Paired.one {α β : Type} {F : α → β → Prop} {xs : List α} {b : β} (h : Paired F xs [b]) : ∃ a, xs = [a] ∧ F a b := by
  cases h with
  | cons h1 h2 => cases h2; exact ⟨_, rfl, h1⟩
theorem Paired.two {α β : Type} {F : α → β → Prop} {xs : List α} {b c : β} (h : Paired F xs [b, c]) : ∃ a a', xs = [a, a'] ∧ F a b ∧ F a' c := by
  cases h with
  | cons h1 h2 =>
    obtain ⟨a', rfl, h3⟩ := Paired.one h2
    exact ⟨_, a', rfl, h1, h3⟩
theorem cr_dLen : CallR X (.builtin "len") (RCD X.K dLen) := by
  intro pins s σ H vs us Q I r h
  obtain ⟨N, O, ds, dm, hv, P, q, hP⟩ := h
  unfold dLen at q
  split at q
  · obtain ⟨v, rfl, h1⟩ := Paired.one hv
    obtain ⟨a, xs, rfl, h2, h3⟩ := h1.lst
    exact call_len_seq pins s σ H _ us Q I r ⟨a, xs, rfl, .inl (SqL.of h2), by rw [h3.length]; exact (hP _ q).int⟩
  · obtain ⟨v, rfl, h1⟩ := Paired.one hv
    obtain ⟨a, xs, rfl, h2, h3⟩ := h1.tup
    exact call_len_seq pins s σ H _ us Q I r ⟨a, xs, rfl, .inr h2, by rw [h3.length]; exact (hP _ q).int⟩
  · obtain ⟨v, rfl, h1⟩ := Paired.one hv
    rw [h1.str] at r
    exact call_len_str pins s σ H _ us Q I r ⟨_, rfl, q.1, (hP _ q.2).int⟩
  · exact q.elim
theorem cr_dTuple : CallR X (.type "tuple") (RCD X.K dTuple) := by
  intro pins s σ H vs us Q I r h
  obtain ⟨N, O, ds, dm, hv, P, q, hP⟩ := h
  unfold dTuple at q
  split at q
  · obtain ⟨v, rfl, h1⟩ := Paired.one hv
    obtain ⟨a, xs, rfl, h2, h3⟩ := h1.lst
    exact call_tuple_of pins s σ H _ us Q I r ⟨a, xs, rfl, .inl ⟨SqL.of h2, (hP _ q).tup dm h3⟩⟩
  · obtain ⟨v, rfl, h1⟩ := Paired.one hv
    have hd := h1.tupDr
    obtain ⟨a, xs, rfl, h2, h3⟩ := h1.tup
    exact call_tuple_of pins s σ H _ us Q I r ⟨a, xs, rfl, .inr ⟨h2, (hP _ q).same hd fun _ => nofun⟩⟩
  · exact q.elim
theorem cr_dList : CallR X (.type "list") (RCD X.K dList) := by
  intro pins s σ H vs us Q I r h
  obtain ⟨N, O, ds, dm, hv, P, q, hP⟩ := h
  unfold dList at q
  split at q
  · obtain ⟨v, rfl, h1⟩ := Paired.one hv
    obtain ⟨a, xs, rfl, h2, h3⟩ := h1.lst
    exact call_list_of pins s σ H _ us Q I r ⟨a, xs, rfl, .inl (SqL.of h2), (hP _ q).lst dm h3⟩
  · obtain ⟨v, rfl, h1⟩ := Paired.one hv
    obtain ⟨a, xs, rfl, h2, h3⟩ := h1.tup
    exact call_list_of pins s σ H _ us Q I r ⟨a, xs, rfl, .inr h2, (hP _ q).lst dm h3⟩
  · exact q.elim
theorem cr_dSum (hc : X.calm = true) : CallR X (.builtin "sum") (RCD X.K dSum) := by
  intro pins s σ H vs us Q I r h
  obtain ⟨N, O, ds, dm, hv, P, q, hP⟩ := h
  unfold dSum at q
  split at q
  · obtain ⟨ns, e, q⟩ := optQ_iff q
    obtain ⟨v, rfl, h1⟩ := Paired.one hv
    obtain ⟨a, xs, rfl, h2, h3⟩ := h1.lst
    rw [intsOf_eq e] at h3
    rw [h3.ints] at h2
    exact cr_sum hc pins s σ H _ us Q I r ⟨a, ns, rfl, SqL.of h2, (hP _ q).int⟩
  · exact q.elim
theorem cr_dAny (hc : X.calm = true) : CallR X (.builtin "any") (RCD X.K dAny) := by
  intro pins s σ H vs us Q I r h
  obtain ⟨N, O, ds, dm, hv, P, q, hP⟩ := h
  unfold dAny at q
  split at q
  · obtain ⟨ns, e, q⟩ := optQ_iff q
    obtain ⟨v, rfl, h1⟩ := Paired.one hv
    obtain ⟨a, xs, rfl, h2, h3⟩ := h1.lst
    rw [boolsOf_eq e] at h3
    rw [h3.bools] at h2
    exact cr_any hc pins s σ H _ us Q I r ⟨a, ns, rfl, SqL.of h2, (hP _ q).bl⟩
  · exact q.elim
theorem cr_dAll (hc : X.calm = true) : CallR X (.builtin "all") (RCD X.K dAll) := by
  intro pins s σ H vs us Q I r h
  obtain ⟨N, O, ds, dm, hv, P, q, hP⟩ := h
  unfold dAll at q
  split at q
  · obtain ⟨ns, e, q⟩ := optQ_iff q
    obtain ⟨v, rfl, h1⟩ := Paired.one hv
    obtain ⟨a, xs, rfl, h2, h3⟩ := h1.lst
    rw [boolsOf_eq e] at h3
    rw [h3.bools] at h2
    exact cr_all hc pins s σ H _ us Q I r ⟨a, ns, rfl, SqL.of h2, (hP _ q).bl⟩
  · exact q.elim
theorem cr_dAbs : CallR X (.builtin "abs") (RCD X.K dAbs) := by
  intro pins s σ H vs us Q I r h
  obtain ⟨N, O, ds, dm, hv, P, q, hP⟩ := h
  unfold dAbs at q
  split at q
  · rename_i i
    obtain ⟨v, rfl, h1⟩ := Paired.one hv
    rw [h1.int] at r
    refine call_abs pins s σ H _ us Q I r ⟨_, rfl, ?_⟩
    have e : ∀ i : Int, (if i < 0 then -i else i) = (i.natAbs : Int) := fun i => by split <;> omega
    rw [e]
    exact (hP _ q).int
  · exact q.elim
theorem cr_dMin2 (hc : X.calm = true) : CallR X (.builtin "min") (RCD X.K dMin2) := by
  intro pins s σ H vs us Q I r h
  obtain ⟨N, O, ds, dm, hv, P, q, hP⟩ := h
  unfold dMin2 at q
  split at q
  · obtain ⟨v, v', rfl, h1, h2⟩ := Paired.two hv
    rw [h1.int, h2.int] at r
    exact call_min2 hc pins s σ H _ us Q I r ⟨_, _, rfl, (hP _ q).int⟩
  · exact q.elim
theorem cr_dMax2 (hc : X.calm = true) : CallR X (.builtin "max") (RCD X.K dMax2) := by
  intro pins s σ H vs us Q I r h
  obtain ⟨N, O, ds, dm, hv, P, q, hP⟩ := h
  unfold dMax2 at q
  split at q
  · obtain ⟨v, v', rfl, h1, h2⟩ := Paired.two hv
    rw [h1.int, h2.int] at r
    exact call_max2 hc pins s σ H _ us Q I r ⟨_, _, rfl, (hP _ q).int⟩
  · exact q.elim
theorem cr_dInt : CallR X (.type "int") (RCD X.K dInt) := by
  intro pins s σ H vs us Q I r h
  obtain ⟨N, O, ds, dm, hv, P, q, hP⟩ := h
  unfold dInt at q
  split at q
  · obtain ⟨v, rfl, h1⟩ := Paired.one hv
    rw [h1.int] at r
    exact call_int1 pins s σ H _ us Q I r (.inl ⟨_, rfl, (hP _ q).int⟩)
  · obtain ⟨v, rfl, h1⟩ := Paired.one hv
    rw [h1.bl] at r
    exact call_int1 pins s σ H _ us Q I r (.inr ⟨_, rfl, (hP _ q).int⟩)
  · exact q.elim
theorem cr_dStr : CallR X (.type "str") (RCD X.K dStr) := by
  intro pins s σ H vs us Q I r h
  obtain ⟨N, O, ds, dm, hv, P, q, hP⟩ := h
  unfold dStr at q
  split at q
  · obtain ⟨v, rfl, h1⟩ := Paired.one hv
    rw [h1.int] at r
    exact call_str_int pins s σ H _ us Q I r ⟨_, rfl, q.1, (hP _ q.2).str⟩
  · exact q.elim
theorem cr_dGcd : CallR X (.builtin "math.gcd") (RCD X.K dGcd) := by
  intro pins s σ H vs us Q I r h
  obtain ⟨N, O, ds, dm, hv, P, q, hP⟩ := h
  unfold dGcd at q
  split at q
  · obtain ⟨v, v', rfl, h1, h2⟩ := Paired.two hv
    rw [h1.int, h2.int] at r
    exact cr_gcd pins s σ H _ us Q I r ⟨_, _, rfl, (hP _ q).int⟩
  · exact q.elim
theorem DrA.zip {K : PySem.W.Frag} {O : Addr → Prop} {H : Hp} : ∀ {xs : List V} {ds : List D}, DrA K O H xs ds → ∀ p ∈ xs.zip ds, Dr K O H p.1 p.2
  | _, [], h, p, hp => by cases h; simp at hp
  | _, _ :: _, h, p, hp => by
    cases h with
    | cons h1 h2 =>
      rw [List.zip_cons_cons] at hp
      rcases List.mem_cons.mp hp with rfl | hp
      · exact h1
      · exact DrA.zip h2 p hp
theorem DrA.of_pairs {K : PySem.W.Frag} {O : Addr → Prop} {H : Hp} : ∀ {ps : List (V × D)}, (∀ p ∈ ps, Dr K O H p.1 p.2) → DrA K O H (ps.map Prod.fst) (ps.map Prod.snd)
  | [], _ => .nil
  | p :: ps, h => .cons (h p List.mem_cons_self) (DrA.of_pairs fun q hq => h q (List.mem_cons_of_mem _ hq))
theorem each_vals {vs : List V} {us : List Value} (r : Vals vs us) : ∀ {ds : List D}, vs.length = ds.length → PySem.W.EachIs (fun (u : Value) (p : V × D) => RelV p.1 u) us (vs.zip ds) := by
  induction r with
  | nil => intro ds _; simp; exact .nil
  | cons r1 _ ih =>
    intro ds hl
    cases ds with
    | nil => simp at hl
    | cons d ds =>
      rw [List.zip_cons_cons]
      exact .cons r1 (ih (by simpa using hl))
theorem each_reads {pins : List (Addr × Obj)} {σ : L2.St} {H : Hp} {s : Shared} (I : Inv X pins σ H s) : ∀ {vs : List V} {us : List Value} {ds : List D}, Vals vs us → DpAll X.K H vs ds →
    PySem.W.EachIs (fun (u : Value) (p : V × D) => ∃ as, PySem.Reads s.heap u p.2 as) us (vs.zip ds)
  | _, _, [], r, h => by cases h; cases r; exact .nil
  | _, _, _ :: _, r, h => by
    cases h with
    | cons h1 h2 =>
      cases r with
      | cons r1 r2 =>
        rw [List.zip_cons_cons]
        exact .cons (Dp.reads I _ _ _ h1 r1) (each_reads I r2 h2)
theorem vals_each {us : List Value} {ps : List (V × D)} (h : PySem.W.EachIs (fun (u : Value) (p : V × D) => RelV p.1 u) us ps) : Vals (ps.map Prod.fst) us := by
  induction h with
  | nil => exact .nil
  | cons h1 _ ih => exact .cons h1 ih
theorem zip_map_snd : ∀ {vs : List V} {ds : List D}, vs.length = ds.length → (vs.zip ds).map Prod.snd = ds
  | [], [], _ => rfl
  | [], _ :: _, h => by simp at h
  | _ :: _, [], h => by simp at h
  | v :: vs, d :: ds, h => by rw [List.zip_cons_cons, List.map_cons, zip_map_snd (by simpa using h)]
theorem cr_dSorted (hu : X.A.units + 66 < cLine) : CallR X (.builtin "sorted") (RCD X.K dSorted) := by
  intro pins s σ H vs us Q I r h
  obtain ⟨N, O, ds, dm, hv, P, q, hP⟩ := h
  unfold dSorted at q
  split at q
  · rename_i l
    obtain ⟨⟨ok1, ok2, ok3, ok4⟩, q⟩ := q
    obtain ⟨v, rfl, h1⟩ := Paired.one hv
    obtain ⟨a, xs, rfl, h2, h3⟩ := h1.lst
    rw [Vals.ref1 r]
    obtain ⟨its, rv, pl, hz⟩ := I.list (SqL.of h2)
    have hl : xs.length = l.length := h3.length
    have er := each_reads I rv (DrA.dp _ _ h3)
    have ev := each_vals rv hl
    have em : (xs.zip l).map (fun p => p.2) = l := zip_map_snd hl
    refine PySem.W.sorted_data (β := V × D) (bs := xs.zip l) (enc := Prod.snd) pl.isList ev er (by rw [show (xs.zip l).map Prod.snd = l from em]; exact ok1) (by rw [show (xs.zip l).map Prod.snd = l from em]; exact ok2)
      (by rw [List.length_zip]; omega) (fun b hb => ?_) fun out ho eo => ?_
    · have hb2 : b.2 ∈ l := by
        rw [← show (xs.zip l).map Prod.snd = l from em]
        exact List.mem_map_of_mem hb
      have := ok4 b.2 hb2
      omega
    · obtain ⟨ep, he'⟩ := PyProof.Rows.sortedAll_at s.heap its out.toArray
      have eD : ((xs.zip l).mergeSort (PySem.W.dataLe false Prod.snd)).map Prod.snd = sortD l := by
        have e0 := PySem.W.sort_maps (r := PySem.W.dataLe false Prod.snd) (s := ltD) (l := xs.zip l) (Prod.snd : V × D → D) fun a _ b _ => rfl
        rw [e0, show (xs.zip l).map Prod.snd = l from em]
        rfl
      have hlen : (((xs.zip l).mergeSort (PySem.W.dataLe false Prod.snd)).map Prod.fst).length ≤ sizeLine := by
        rw [List.length_map, List.length_mergeSort, List.length_zip]
        omega
      have hA : DrA X.K O H (((xs.zip l).mergeSort (PySem.W.dataLe false Prod.snd)).map Prod.fst) (sortD l) := by
        rw [← eD]
        exact DrA.of_pairs fun p hp => h3.zip p (List.mem_mergeSort.mp hp)
      exact ⟨.ref _, upd H (s.heap.objs.size + 1) (.lst _), I.laid (t' := s.toks) (fun _ _ => PyProof.Rows.sortedAll_old) (Nat.le_succ _) ⟨hlen, out, ep, vals_each eo, he'⟩, rfl, (hP _ q).lst dm hA _ (I.hok.fresh (Nat.le_succ _))⟩
  · exact q.elim
/-! isinstance -/
def tyOfD : D → String
  | .none => "NoneType"
  | .bool _ => "bool"
  | .int _ => "int"
  | .str _ => "str"
  | .list _ => "list"
  | .tuple _ => "tuple"
  | .dict _ => "dict"
def isiD (T : String) : D → Bool
  | .none => false
  | .bool _ => T == "int" || T == "bool"
  | .int _ => T == "int"
  | .str _ => T == "str"
  | .list _ => T == "list"
  | .tuple _ => T == "tuple"
  | .dict _ => T == "dict"
theorem BDr.tyX {K : PySem.W.Frag} {N : Addr → Prop} {O : Addr → Prop} {H : Hp} {v : V} {d : D} (h : BDr K N O H v d) : TyX K H v (.type (tyOfD d)) := by
  rcases h with h | ⟨a, xs, ds, rfl, rfl, _, h1, h2⟩
  · cases h with
    | non => exact .base .non
    | bl b => exact .base (.bl b)
    | int i => exact .base (.int i)
    | str x => exact .base (.str x)
    | lst h1 _ _ => exact .base (.lst h1)
    | tup h1 _ =>
      rcases h1 with h1 | ((h1 | ⟨_, h1⟩) | ⟨o, its, n, h1, h2, _⟩)
      · exact .base (.tup h1.1)
      · cases h1
      · cases h1
      · exact .kTuple h1 h2
  · exact .base (.lst h1)
theorem kit_isi (T : String) (hT : T = "int" ∨ T = "bool" ∨ T = "str" ∨ T = "tuple" ∨ T = "list") {d : D} (hd : ∀ kvs, d ≠ .dict kvs) : kitB (tyOfD d) T = some (isiD T d) := by
  rcases hT with rfl | rfl | rfl | rfl | rfl <;> (cases d with
    | dict kvs => exact absurd rfl (hd kvs)
    | _ => (simp only [tyOfD, isiD]; decide +kernel))
end
end DL

set_option Elab.async false
set_option linter.all false
set_option maxRecDepth 100000
set_option maxHeartbeats 4000000
namespace DL
open PySem PySem.Spec PyProof.Rows L2
/-! ### dicts whose keys are tuples of numbers, tuples, None -/
mutual
/-- a key without texts -/
def plainK : NestedKey → Bool
  | .none => true
  | .num _ => true
  | .text _ => false
  | .tup ks => plainKs ks
def plainKs : List NestedKey → Bool
  | [] => true
  | k :: ks => plainK k && plainKs ks
end
mutual
theorem hash_plain (w w' : World) : ∀ k : NestedKey, plainK k = true → k.hash w = k.hash w'
  | .none, _ => by rw [NestedKey.hash, NestedKey.hash]
  | .num _, _ => by rw [NestedKey.hash, NestedKey.hash]
  | .text _, h => by rw [plainK] at h; cases h
  | .tup ks, h => by rw [plainK] at h; rw [NestedKey.hash, NestedKey.hash, hashes_plain w w' ks h]
theorem hashes_plain (w w' : World) : ∀ ks : List NestedKey, plainKs ks = true → NestedKey.hashes w ks = NestedKey.hashes w' ks
  | [], _ => by rw [NestedKey.hashes, NestedKey.hashes]
  | k :: ks, h => by
    rw [plainKs, Bool.and_eq_true] at h
    rw [NestedKey.hashes, NestedKey.hashes, hash_plain w w' k h.1, hashes_plain w w' ks h.2]
end
abbrev EnV := NestedKey × Addr × V
abbrev EnU := NestedKey × Addr × Value
def entW (w : World) (y : EnU) : DictEntry := ⟨y.1.hash w, .ref y.2.1, y.2.2⟩
abbrev EnR (x : EnV) (y : EnU) : Prop := x.1 = y.1 ∧ x.2.1 = y.2.1 ∧ RelV x.2.2 y.2.2
def keyOkK (k : NestedKey) : Prop := plainK k = true ∧ k.depth ≤ 8
/-- the object of a dict with the entries xs -/
def dctφ (a : Addr) (xs : List EnV) (h : Heap) : Prop := (a == sysModules) = false ∧ xs.length ≤ sizeLine ∧ (xs.map (·.1)).Nodup ∧ (∀ x ∈ xs, keyOkK x.1) ∧
  ∃ (w : World) (ys : List EnU), Paired EnR xs ys ∧ ∃ o es ep, h.get? a = some o ∧ o.ExactDict ∧ o.data = .dict es ep ∧ es.toList = ys.map (entW w)
def dctO (a : Addr) (xs : List EnV) : HO := .ext (dctφ a xs)
theorem dctO_ok {P : Program} {w : World} {H : Hp} {h : Heap} {a : Addr} {xs : List EnV} (x : dctφ a xs h) : ObjOk P w H h a (dctO a xs) := by
  refine ⟨x, ?_, fun h1 h2 y k => ?_⟩
  · obtain ⟨_, _, _, _, _, _, _, o, _, _, e, _⟩ := x
    exact ⟨o, e⟩
  · obtain ⟨a1, a2, a3, a4, w', ys, r, o, es, ep, e, c⟩ := y
    exact ⟨a1, a2, a3, a4, w', ys, r, o, es, ep, k _ e, c⟩
/-- a dict that a frame owns: its keys and values as data -/
def OdR (K : PySem.W.Frag) (O : Addr → Prop) (H : Hp) (a : Addr) (kvs : List (NestedKey × D)) : Prop :=
  ∃ xs : List EnV, H a = some (dctO a xs) ∧ Paired (fun (x : EnV) (p : NestedKey × D) => x.1 = p.1 ∧ Dr K O H (.ref x.2.1) p.1.data ∧ Dr K O H x.2.2 p.2) xs kvs
theorem OdR.map {K : PySem.W.Frag} {O O' : Addr → Prop} {H H' : Hp} {a : Addr} {kvs : List (NestedKey × D)} (x : OdR K O H a kvs) (h1 : ∀ o, H a = some o → H' a = some o) (h2 : ∀ v d, Dr K O H v d → Dr K O' H' v d) : OdR K O' H' a kvs := by
  obtain ⟨xs, e, r⟩ := x
  exact ⟨xs, h1 _ e, Paired.mapP r fun x p z => ⟨z.1, h2 _ _ z.2.1, h2 _ _ z.2.2⟩⟩
section
variable {X : Cx} {pins : List (Addr × Obj)} {σ : L2.St} {H : Hp} {s : Shared} {O : Addr → Prop}
mutual
/-- data that are a key are that key in the heap -/
theorem dr_key (I : Inv X pins σ H s) : ∀ (k : NestedKey) (v : V) (u : Value), plainK k = true → Dr X.K O H v k.data → RelV v u → NestedIs s.heap k u
  | .none, v, u, _, h, r => by
    rw [NestedKey.data] at h
    cases h; cases r; exact .none
  | .num i, v, u, _, h, r => by
    rw [NestedKey.data] at h
    cases h
    obtain ⟨t, rfl⟩ := r
    exact .int i t
  | .text _, _, _, p, _, _ => by rw [plainK] at p; cases p
  | .tup ks, v, u, p, h, r => by
    rw [NestedKey.data] at h
    rw [plainK] at p
    cases h with
    | @tup a xs _ h1 h3 =>
      cases r
      obtain ⟨its, rv, ⟨o, ho, hc, n, hd⟩, _⟩ := I.tuple h1.sq
      refine .tup ho hc hd ?_
      exact dr_keys I ks xs its p h3 rv
theorem dr_keys (I : Inv X pins σ H s) : ∀ (ks : List NestedKey) (vs : List V) (us : List Value), plainKs ks = true → DrA X.K O H vs (NestedKey.datas ks) → Vals vs us → NestedAll s.heap ks us
  | [], vs, us, _, h, r => by
    rw [NestedKey.datas] at h
    cases h; cases r; exact .nil
  | k :: ks, vs, us, p, h, r => by
    rw [NestedKey.datas] at h
    rw [plainKs, Bool.and_eq_true] at p
    cases h with
    | cons h1 h2 =>
      cases r with
      | cons r1 r2 => exact .cons (dr_key I k _ _ p.1 h1 r1) (dr_keys I ks _ _ p.2 h2 r2)
end
theorem paired_mem {α β : Type} {R : α → β → Prop} {xs : List α} {ys : List β} (h : Paired R xs ys) : ∀ y ∈ ys, ∃ x ∈ xs, R x y := by
  induction h with
  | nil => nofun
  | cons h1 _ ih =>
    intro y hy
    rcases List.mem_cons.mp hy with rfl | hy
    · exact ⟨_, List.mem_cons_self, h1⟩
    · obtain ⟨x, hx, q⟩ := ih y hy
      exact ⟨x, List.mem_cons_of_mem _ hx, q⟩
theorem paired_keys {xs : List EnV} {ys : List EnU} (h : Paired EnR xs ys) : xs.map (·.1) = ys.map (·.1) := by
  induction h with
  | nil => rfl
  | cons h1 _ ih => rw [List.map_cons, List.map_cons, h1.1, ih]
abbrev DV (K : PySem.W.Frag) (O : Addr → Prop) (H : Hp) (xs : List EnV) (kvs : List (NestedKey × D)) : Prop := Paired (fun (x : EnV) (p : NestedKey × D) => x.1 = p.1 ∧ Dr K O H (.ref x.2.1) p.1.data ∧ Dr K O H x.2.2 p.2) xs kvs
/-- the dict as the library tells it -/
theorem od_of (I : Inv X pins σ H s) {a : Addr} {xs : List EnV} {kvs : List (NestedKey × D)} (e : H a = some (dctO a xs)) (dv : DV X.K O H xs kvs) :
    (a == sysModules) = false ∧ xs.length ≤ sizeLine ∧ (∀ x ∈ xs, keyOkK x.1) ∧ ∃ ys : List EnU, Paired EnR xs ys ∧ s.heap.DictOfH (nestedKind X.prog X.w) a ys := by
  obtain ⟨⟨a1, a2, a3, a4, w', ys, r, o, es, ep, ho, hx, hd, he⟩, _, _⟩ := (show ObjOk X.prog X.w H s.heap a (dctO a xs) from I.hok a _ e)
  refine ⟨a1, a2, a4, ys, r, o, es, ep, ho, hx, hd, ?_, fun y hy => ?_, ?_⟩
  · rw [he]
    refine List.map_congr_left fun y hy => ?_
    obtain ⟨x, hx', q⟩ := paired_mem r y hy
    have := (a4 x hx').1
    rw [q.1] at this
    show DictEntry.mk _ _ _ = DictEntry.mk _ _ _
    rw [show y.1.hash w' = (nestedKind X.prog X.w).hash y.1 from hash_plain w' X.w y.1 this]
  · obtain ⟨x, hx', q⟩ := paired_mem r y hy
    obtain ⟨i, hi⟩ := List.getElem?_of_mem hx'
    have hk := a4 x hx'
    have hdr : Dr X.K O H (.ref x.2.1) x.1.data := by
      have : ∀ {xs : List EnV} {kvs : List (NestedKey × D)}, DV X.K O H xs kvs → x ∈ xs → Dr X.K O H (.ref x.2.1) x.1.data := by
        intro xs kvs h
        induction h with
        | nil => nofun
        | cons h1 _ ih =>
          intro hm
          rcases List.mem_cons.mp hm with rfl | hm
          · rw [h1.1]; exact h1.2.1
          · exact ih hm
      exact this dv hx'
    rw [q.1, q.2.1] at hdr
    rw [q.1] at hk
    exact ⟨dr_key I y.1 _ _ hk.1 hdr rfl, hk.2⟩
  · rw [← paired_keys r]; exact a3
theorem dctφ_of {P : Program} {w : World} {h : Heap} {a : Addr} {xs : List EnV} {ys : List EnU} (hd : (a == sysModules) = false) (hl : xs.length ≤ sizeLine) (hk : ∀ x ∈ xs, keyOkK x.1) (r : Paired EnR xs ys) (d : h.DictOfH (nestedKind P w) a ys) : dctφ a xs h := by
  obtain ⟨o, es, ep, ho, hx, hdat, he, _, hn⟩ := d
  exact ⟨hd, hl, by rw [paired_keys r]; exact hn, hk, w, ys, r, o, es, ep, ho, hx, hdat, he⟩
/-! what is there, what is stored -/
def lookV (kvs : List (NestedKey × D)) (k : NestedKey) : Option D := (kvs.find? fun p => decide (p.1 = k)).map (·.2)
def putV (kvs : List (NestedKey × D)) (k : NestedKey) (d : D) : List (NestedKey × D) := if (lookV kvs k).isSome then kvs.map (fun p => if p.1 = k then (p.1, d) else p) else kvs ++ [(k, d)]
def lookX (xs : List EnV) (k : NestedKey) : Option V := (xs.find? fun p => decide (p.1 = k)).map (·.2.2)
def putX (xs : List EnV) (k : NestedKey) (b : Addr) (v : V) : List EnV := if (lookX xs k).isSome then xs.map (fun p => if p.1 = k then (p.1, p.2.1, v) else p) else xs ++ [(k, b, v)]
theorem dv_look {K : PySem.W.Frag} {xs : List EnV} {kvs : List (NestedKey × D)} (h : DV K O H xs kvs) (k : NestedKey) : (lookX xs k = none ∧ lookV kvs k = none) ∨ ∃ v d, lookX xs k = some v ∧ lookV kvs k = some d ∧ Dr K O H v d := by
  unfold lookX lookV
  induction h with
  | nil => exact .inl ⟨rfl, rfl⟩
  | @cons x p xs ps h1 _ ih =>
    by_cases e : x.1 = k
    · have e2 : p.1 = k := by rw [← h1.1]; exact e
      rw [List.find?_cons_of_pos (by simpa using e), List.find?_cons_of_pos (by simpa using e2)]
      exact .inr ⟨_, _, rfl, rfl, h1.2.2⟩
    · have e2 : ¬ p.1 = k := by rw [← h1.1]; exact e
      rw [List.find?_cons_of_neg (by simpa using e), List.find?_cons_of_neg (by simpa using e2)]
      exact ih
theorem er_look {xs : List EnV} {ys : List EnU} (h : Paired EnR xs ys) (k : NestedKey) : (lookX xs k = none ∧ atKey ys k = none) ∨ ∃ v b u, lookX xs k = some v ∧ atKey ys k = some (b, u) ∧ RelV v u := by
  unfold lookX atKey
  induction h with
  | nil => exact .inl ⟨rfl, rfl⟩
  | @cons x p xs ps h1 _ ih =>
    by_cases e : x.1 = k
    · have e2 : p.1 = k := by rw [← h1.1]; exact e
      rw [List.find?_cons_of_pos (by simpa using e), List.find?_cons_of_pos (by simpa using e2)]
      exact .inr ⟨_, _, _, rfl, rfl, h1.2.2⟩
    · have e2 : ¬ p.1 = k := by rw [← h1.1]; exact e
      rw [List.find?_cons_of_neg (by simpa using e), List.find?_cons_of_neg (by simpa using e2)]
      exact ih
theorem paired_maps {α β γ δ : Type} {R : α → β → Prop} {S : γ → δ → Prop} {f : α → γ} {g : β → δ} {xs : List α} {ys : List β} (h : Paired R xs ys) (q : ∀ x y, R x y → S (f x) (g y)) : Paired S (xs.map f) (ys.map g) := by
  induction h with
  | nil => exact .nil
  | cons h1 _ ih => exact .cons (q _ _ h1) ih
theorem paired_app1 {α β : Type} {R : α → β → Prop} {xs : List α} {ys : List β} (h : Paired R xs ys) {x : α} {y : β} (q : R x y) : Paired R (xs ++ [x]) (ys ++ [y]) := by
  induction h with
  | nil => exact .cons q .nil
  | cons h1 _ ih => exact .cons h1 ih
theorem er_put {xs : List EnV} {ys : List EnU} (h : Paired EnR xs ys) {k : NestedKey} {b : Addr} {v : V} {u : Value} (r : RelV v u) : Paired EnR (putX xs k b v) (storedH ys k b u) := by
  unfold putX storedH
  rcases er_look h k with ⟨e1, e2⟩ | ⟨v0, b0, u0, e1, e2, _⟩
  · rw [e1, e2]
    simp only [Option.isSome_none, Bool.false_eq_true, if_false]
    exact paired_app1 h ⟨rfl, rfl, r⟩
  · rw [e1, e2]
    simp only [Option.isSome_some, if_true]
    refine paired_maps h fun x y q => ?_
    unfold putAt
    by_cases e : x.1 = k
    · rw [if_pos e, if_pos (by rw [← q.1]; exact e)]
      exact ⟨q.1, q.2.1, r⟩
    · rw [if_neg e, if_neg (by rw [← q.1]; exact e)]
      exact q
theorem dv_put {K : PySem.W.Frag} {xs : List EnV} {kvs : List (NestedKey × D)} (h : DV K O H xs kvs) {k : NestedKey} {b : Addr} {v : V} {d : D} (r1 : Dr K O H (.ref b) k.data) (r : Dr K O H v d) : DV K O H (putX xs k b v) (putV kvs k d) := by
  unfold putX putV
  rcases dv_look h k with ⟨e1, e2⟩ | ⟨v0, d0, e1, e2, _⟩
  · rw [e1, e2]
    simp only [Option.isSome_none, Bool.false_eq_true, if_false]
    exact paired_app1 h ⟨rfl, r1, r⟩
  · rw [e1, e2]
    simp only [Option.isSome_some, if_true]
    refine paired_maps h fun x y q => ?_
    by_cases e : x.1 = k
    · rw [if_pos e, if_pos (by rw [← q.1]; exact e)]
      exact ⟨q.1, q.2.1, r⟩
    · rw [if_neg e, if_neg (by rw [← q.1]; exact e)]
      exact q
theorem putX_len (xs : List EnV) (k : NestedKey) (b : Addr) (v : V) : (putX xs k b v).length ≤ xs.length + 1 := by
  unfold putX
  split
  · rw [List.length_map]; omega
  · simp
theorem putX_keys {xs : List EnV} (h : ∀ x ∈ xs, keyOkK x.1) {k : NestedKey} (hk : keyOkK k) (b : Addr) (v : V) : ∀ x ∈ putX xs k b v, keyOkK x.1 := by
  intro x hx
  unfold putX at hx
  split at hx
  · obtain ⟨y, hy, rfl⟩ := List.mem_map.mp hx
    have := h y hy
    split <;> exact this
  · rcases List.mem_append.mp hx with hx | hx
    · exact h x hx
    · rw [List.mem_singleton.mp hx]; exact hk
/-- d.get(k, x) -/
theorem d_getN {A : Around} {E : Value → Shared → Prop} {a b : Addr} {xs : List EnV} {kvs : List (NestedKey × D)} {k : NestedKey} {x : V} {r : Value} {Q : Value → Shared → Prop} (hu : A.in1.units + 8 < cLine) (I : Inv X pins σ H s) (e : H a = some (dctO a xs)) (dv : DV X.K O H xs kvs)
    (hk : keyOkK k) (hb : Dr X.K O H (.ref b) k.data) (rx : RelV x r) (h : ∀ v u s', Inv X pins σ H s' → RelV v u → (lookX xs k = some v ∨ (lookX xs k = none ∧ v = x)) → Q u s') :
    wpAny (model X.prog X.w) A (call (.builtin "dict.get") [.ref a, .ref b, r]) Q E s := by
  obtain ⟨a1, a2, a4, ys, re, d⟩ := od_of I e dv
  refine call_meetsIn PySem.F.slot_dict_get d.typeIs PySem.F.entry_dict_get (PySem.F.args_dict_get_3 _ _ _) (meetsH_dict_get_default (nestedKind X.prog X.w) a b a1 r) ⟨hu, k, ys, ⟨dr_key I k _ _ hk.1 hb rfl, hk.2⟩, d, ?_⟩
  rcases er_look re k with ⟨e1, e2⟩ | ⟨v, b', u, e1, e2, rv⟩
  · rw [e2]
    exact h x r _ (I.tok _) rx (.inr ⟨e1, rfl⟩)
  · rw [e2]
    exact h v u _ (I.tok _) rv (.inl e1)
/-- d[k] = v -/
theorem d_setN {A : Around} {E : Value → Shared → Prop} {a b : Addr} {xs : List EnV} {kvs : List (NestedKey × D)} {k : NestedKey} {v : V} {u : Value} {Q : Unit → Shared → Prop} (hu : A.in1.units + 8 < cLine) (I : Inv X pins σ H s) (e : H a = some (dctO a xs)) (dv : DV X.K O H xs kvs)
    (hk : keyOkK k) (hb : Dr X.K O H (.ref b) k.data) (rv : RelV v u) (hz : xs.length < sizeLine) (h : ∀ s', Inv X pins σ (upd H a (dctO a (putX xs k b v))) s' → Q () s') :
    wpAny (model X.prog X.w) A (setItem (.ref a) (.ref b) u) Q E s := by
  obtain ⟨a1, a2, a4, ys, re, d⟩ := od_of I e dv
  have hl : ys.length = xs.length := (Paired.length re).symm
  refine wpAny_setItem_heap (knd := nestedKind X.prog X.w) (k := k) (hsz := by omega) hu ⟨dr_key I k _ _ hk.1 hb rfl, hk.2⟩ d fun h' d' hs => ?_
  have he : ∃ q, h'.get? a = some q := let ⟨q, _, _, hq, _⟩ := d'; ⟨q, hq⟩
  exact h _ (d_write I (by rw [e]; exact True.intro) hs he (dctO_ok (dctφ_of a1 (by have := putX_len xs k b v; omega) (putX_keys a4 hk b v) (er_put re rv) d')))
/-- {} -/
theorem d_newN (I : Inv X pins σ H s) : Inv X pins σ (upd H s.heap.objs.size (dctO s.heap.objs.size [])) { s with heap := s.heap.push { cls := .type "dict", data := .dict #[] } } := by
  refine I.laid (t' := s.toks) (fun _ _ q => Heap.get?_push_of_some _ q) (Nat.le_refl _) (dctO_ok (dctφ_of (P := X.prog) (w := X.w) (ys := []) ?_ (Nat.zero_le _) nofun .nil (Heap.DictOfH.new _)))
  exact beq_eq_false_iff_ne.mpr (Ne.symm (Nat.ne_of_lt I.big))
end
end DL

set_option Elab.async false
set_option linter.all false
set_option maxRecDepth 100000
set_option maxHeartbeats 4000000
namespace DL
open PySem PySem.Spec PyProof.Rows L2
open PySem.W (sortingHeap sortingHeap_old list_sort_vals sortVals SortsAt)
open PySem.Calls (call_function_entry)
section
variable {X : Cx} {pins : List (Addr × Obj)} {σ : L2.St} {H : Hp} {s : Shared} {O : Addr → Prop}
/-- a new list, sorted -/
theorem sort_fin {A : Around} {E : Value → Shared → Prop} {h1 : Heap} {tk : Nat} {acc : List Value} {H' : Hp} {vs : List V} {ds : List D} {Q : VK}
    (I : Inv X pins σ H' { s with heap := h1, toks := tk }) (rv : Vals vs acc) (hd : DrA X.K O H' vs ds) (hp : DpAll X.K H' vs ds) (ok : sortOk ds) (hu : A.units + 65 < cLine) (dm : Dom O H') (q : AnsF X.K O H' Q (.list (sortD ds))) :
    wpAny (model X.prog X.w) A (call (.builtin "list.sort") [.ref h1.objs.size]) (fun _ s' => EP X pins σ Q (.ref h1.objs.size) s') E { s with heap := h1.push { cls := .type "list", data := .seq acc.toArray }, toks := tk } := by
  obtain ⟨ok1, ok2, ok3, ok4⟩ := ok
  have hl : vs.length = ds.length := hd.length
  have er := each_reads I rv hp
  have ev := each_vals rv hl
  have em : (vs.zip ds).map (fun p => p.2) = ds := zip_map_snd hl
  have hob : (h1.push { cls := .type "list", data := .seq acc.toArray }).get? h1.objs.size = some (seqObj "list" acc.toArray 0) := Heap.get?_push_size _ rfl
  have kb : ∀ b o, h1.get? b = some o → (h1.push { cls := .type "list", data := .seq acc.toArray }).get? b = some o := fun b o e => Heap.get?_push_of_some _ e
  have ne0 : ∀ b o, h1.get? b = some o → b ≠ h1.objs.size := fun b o e => Nat.ne_of_lt (Heap.lt_size e)
  have I2 := I.kept (h' := h1.push { cls := .type "list", data := .seq acc.toArray }) (t' := tk) kb
  generalize hh2 : h1.push { cls := .type "list", data := .seq acc.toArray } = h2 at hob kb ⊢
  have er' : PySem.W.EachIs (fun (u : Value) (p : V × D) => ∃ as, PySem.Reads (sortingHeap h2 h1.objs.size acc) u p.2 as) acc (vs.zip ds) := er.mono fun _ _ ⟨as, r⟩ => ⟨as, PyProof.Rows.Reads.keeps (fun b o e => sortingHeap_old (ne0 b o e) (kb b o e)) r⟩
  have hlen : acc.length = ds.length := by rw [← rv.length]; exact hl
  refine wpAny_call_entry slot_list_sort ⟨_, hob, rfl⟩ entry_list_sort (list_sort_vals (κ := PySem.W.dataKind (sortingHeap h2 h1.objs.size acc) ((vs.zip ds).map Prod.snd)) (s := { s with heap := h2, toks := tk }) hob (SortsAt.data (s := { s with heap := sortingHeap h2 h1.objs.size acc, toks := tk }) (PySem.W.each_map (R := fun v d => ∃ as, PySem.Reads (sortingHeap h2 h1.objs.size acc) v d as) Prod.snd er') (by rw [show (vs.zip ds).map Prod.snd = ds from em]; exact ok1) (by rw [show (vs.zip ds).map Prod.snd = ds from em]; exact ok2) fun d hd => ?_) (by rw [hlen]; exact ok3) ⟨.none, rfl, ?_⟩) (args_list_sort _)
  · rw [show (vs.zip ds).map Prod.snd = ds from em] at hd
    have := ok4 d hd
    show A.units + 1 + d.depth < cLine
    omega
  · show EP X pins σ Q (.ref h1.objs.size) { s with heap := sortedHeap h2 h1.objs.size acc (sortVals _ false acc acc).toArray, toks := tk }
    have eo := PySem.W.sortVals_data (R := fun (u : Value) (p : V × D) => RelV p.1 u) (enc := Prod.snd) false ev er' (by rw [show (vs.zip ds).map Prod.snd = ds from em]; exact ok1)
    generalize sortVals (PySem.W.dataKind (sortingHeap h2 h1.objs.size acc) ((vs.zip ds).map Prod.snd)) false acc acc = out at eo ⊢
    have kF : ∀ b o, h1.get? b = some o → (sortedHeap h2 h1.objs.size acc out.toArray).get? b = some o := fun b o e => (PyProof.Rows.sortedHeap_old (ne0 b o e) (Heap.lt_size (kb b o e))).trans (kb b o e)
    obtain ⟨eF, heF⟩ := PyProof.Rows.sortedHeap_at (vs := acc) (out := out.toArray) hob
    have I1 : Inv X pins σ H' { s with heap := sortedHeap h2 h1.objs.size acc out.toArray, toks := tk } := I.kept (t' := tk) kF
    have eD : ((vs.zip ds).mergeSort (PySem.W.dataLe false Prod.snd)).map Prod.snd = sortD ds := by
      have e0 := PySem.W.sort_maps (r := PySem.W.dataLe false Prod.snd) (s := ltD) (l := vs.zip ds) (Prod.snd : V × D → D) fun a _ b _ => rfl
      rw [e0, show (vs.zip ds).map Prod.snd = ds from em]
      rfl
    have hlen2 : (((vs.zip ds).mergeSort (PySem.W.dataLe false Prod.snd)).map Prod.fst).length ≤ sizeLine := by
      rw [List.length_map, List.length_mergeSort, List.length_zip]
      omega
    have hA : DrA X.K O H' (((vs.zip ds).mergeSort (PySem.W.dataLe false Prod.snd)).map Prod.fst) (sortD ds) := by
      rw [← eD]
      exact DrA.of_pairs fun p hp => hd.zip p (List.mem_mergeSort.mp hp)
    have fresh : H' h1.objs.size = none := I.hok.fresh (Nat.le_refl _)
    exact ⟨.ref h1.objs.size, upd H' h1.objs.size (.lst _), I1.take (h' := sortedHeap h2 h1.objs.size acc out.toArray) (t' := tk) (fun b ob _ e => e) (I.fpOk (Nat.le_refl _) fresh) ⟨hlen2, out, eF, vals_each eo, heF⟩, rfl, q.lst dm hA _ fresh⟩
/-! sorted(d.values()) -/
theorem sorted_view {A : Around} {E : Value → Shared → Prop} {r d n : Nat} {T : String} {Pr : Nat → Value → Prop} {OK : Heap → Prop} {Q : Value → Shared → Prop} (K : PySem.W.KdlSrc X.prog X.w T r d n Pr OK) (hh : A.in1.handled = none) (hok : OK s.heap) (hn : n ≤ sizeLine)
    (h : ∀ (h' : Heap) (tk : Nat) (acc : Array Value), (∀ b o, s.heap.get? b = some o → h'.get? b = some o) → ItemsOf Pr acc n →
      wpAny (model X.prog X.w) A.in1 (call (.builtin "list.sort") [.ref h'.objs.size]) (fun _ s' => Q (.ref h'.objs.size) s') E { s with heap := h'.push { cls := .type "list", data := .seq acc.toList.toArray }, toks := tk }) :
    wpAny (model X.prog X.w) A (call (.builtin "sorted") [.ref r]) Q E s := by
  refine call_function_entry kind_sorted plain_sorted entry_sorted (args_sorted1 _) ?_
  unfold Builtin.«sorted»
  refine wpAny_bind (m := checkCount "sorted" 1 1 _) (wpAny_pure ?_)
  refine wpAny_bind (PySem.W.kdu_collect (A := A.in1) K hh hok hn fun h' tk acc hk hi => ?_)
  refine wpAny_bind (wpAny_newList ?_ (by rw [Array.length_toList, hi.1]; exact hn))
  refine wpAny_bind (wpAny_holding (wpAny_mono (h h' tk acc hk hi) (fun _ s' x => ?_) fun _ _ e => e))
  exact wpAny_pure ⟨_, rfl, x⟩
/-! views -/
def valuesO (p d : Addr) : HO := .ext fun h => h.IsValuesView p d
theorem valuesO_ok {P : Program} {w : World} {H : Hp} {h : Heap} {p d : Addr} (e : h.get? p = some { cls := .type "dict_values", data := .fields #[.ref d] }) : ObjOk P w H h p (valuesO p d) :=
  ⟨⟨_, e, rfl, rfl⟩, ⟨_, e⟩, fun h1 h2 x k => let ⟨o, ho, r⟩ := x; ⟨o, k o ho, r⟩⟩
def viewO (it : Bool) (p d : Addr) : HO := if it = true then L2.DX.itemsO p d else valuesO p d
/-- what sorted(d.values()), sorted(d.items()) sort -/
def viewD (it : Bool) (kvs : List (NestedKey × D)) : List D := if it = true then kvs.map fun p => PyData.tuple [p.1.data, p.2] else kvs.map (·.2)
theorem dv_length {K : PySem.W.Frag} {xs : List EnV} {kvs : List (NestedKey × D)} (h : DV K O H xs kvs) : xs.length = kvs.length := Paired.length h
theorem dv_get {K : PySem.W.Frag} {xs : List EnV} {kvs : List (NestedKey × D)} (h : DV K O H xs kvs) : ∀ {i : Nat} {x : EnV}, xs[i]? = some x → ∃ p, kvs[i]? = some p ∧ x.1 = p.1 ∧ Dr K O H (.ref x.2.1) p.1.data ∧ Dr K O H x.2.2 p.2 := by
  induction h with
  | nil => intro i x e; simp at e
  | cons h1 _ ih =>
    intro i x e
    cases i with
    | zero => simp at e; subst e; exact ⟨_, rfl, h1⟩
    | succ i => simpa using ih (i := i) (by simpa using e)
theorem er_get {xs : List EnV} {ys : List EnU} (h : Paired EnR xs ys) : ∀ {i : Nat} {x : EnV}, xs[i]? = some x → ∃ y, ys[i]? = some y ∧ EnR x y := by
  induction h with
  | nil => intro i x e; simp at e
  | cons h1 _ ih =>
    intro i x e
    cases i with
    | zero => simp at e; subst e; exact ⟨_, rfl, h1⟩
    | succ i => simpa using ih (i := i) (by simpa using e)
theorem vals_of_get : ∀ {vs : List V} {us : List Value}, vs.length = us.length → (∀ (i : Nat) (v : V) (u : Value), vs[i]? = some v → us[i]? = some u → RelV v u) → Vals vs us
  | [], [], _, _ => .nil
  | [], _ :: _, h, _ => by simp at h
  | _ :: _, [], h, _ => by simp at h
  | v :: vs, u :: us, h, q => .cons (q 0 v u rfl rfl) (vals_of_get (by simpa using h) fun i v' u' h1 h2 => q (i + 1) v' u' (by simpa using h1) (by simpa using h2))
theorem dra_of_get {K : PySem.W.Frag} : ∀ {vs : List V} {ds : List D}, vs.length = ds.length → (∀ (i : Nat) (v : V) (d : D), vs[i]? = some v → ds[i]? = some d → Dr K O H v d) → DrA K O H vs ds
  | [], [], _, _ => .nil
  | [], _ :: _, h, _ => by simp at h
  | _ :: _, [], h, _ => by simp at h
  | v :: vs, u :: us, h, q => .cons (q 0 v u rfl rfl) (dra_of_get (by simpa using h) fun i v' u' h1 h2 => q (i + 1) v' u' (by simpa using h1) (by simpa using h2))
end
section
variable {X : Cx}
def rSortView (K : PySem.W.Frag) (it : Bool) : List V → Hp → VK → Prop := fun vs H Q => ∃ (p a : Addr) (O : Addr → Prop) (xs : List EnV) (kvs : List (NestedKey × D)), vs = [.ref p] ∧ H p = some (viewO it p a) ∧ H a = some (dctO a xs) ∧ Dom O H ∧ DV K O H xs kvs ∧ sortOk (viewD it kvs) ∧
  AnsF K O H Q (.list (sortD (viewD it kvs)))
theorem cr_sortVals (hc : X.calm = true) (hu : X.A.units + 66 < cLine) : CallR X (.builtin "sorted") (rSortView X.K false) := by
  intro pins s σ H vs us Q I r h
  obtain ⟨p, a, O, xs, kvs, rfl, hp, ha, dm, dv, ok, q⟩ := h
  obtain rfl := Vals.ref1 r
  have view : s.heap.IsValuesView p a := (show ObjOk X.prog X.w H s.heap p (valuesO p a) from I.hok p _ hp).1
  obtain ⟨a1, a2, a4, ys, re, o, es, ep, ho, hx, hdat, hes, his, hn⟩ := od_of I ha dv
  have l1 := dv_length dv
  have l2 : xs.length = ys.length := Paired.length re
  have l3 : es.size = ys.length := size_of_entries hes
  refine sorted_view (PySem.KdlSrc.rawValues (es := es) (ep := ep)) (I.ok.hd hc) ⟨view, o, ho, hx, hdat⟩ (by omega) fun h' tk acc hk hi => ?_
  have I1 : Inv X pins σ H { s with heap := h', toks := tk } := I.kept (t' := tk) hk
  have rv : Vals (xs.map (·.2.2)) acc.toList := vals_of_get (by have := hi.1; have e : acc.toList.length = acc.size := Array.length_toList; rw [List.length_map, e]; omega) fun i v u h1 h2 => by
    rw [List.getElem?_map] at h1
    cases hxi : xs[i]? with
    | none => rw [hxi] at h1; cases h1
    | some x =>
      rw [hxi] at h1
      cases h1
      obtain ⟨y, hy, er⟩ := er_get re hxi
      obtain ⟨hlt, eu⟩ := hi.2 i u (by rw [← Array.getElem?_toList]; exact h2)
      have e := entry_at hes i
      rw [hy, Array.getElem?_eq_getElem hlt] at e
      rw [eu, Option.some.inj e]
      exact er.2.2
  have hd : DrA X.K O H (xs.map (·.2.2)) (viewD false kvs) := dra_of_get (by show _ = (kvs.map _).length; rw [List.length_map, List.length_map]; omega) fun i v d h1 h2 => by
    rw [List.getElem?_map] at h1
    cases hxi : xs[i]? with
    | none => rw [hxi] at h1; cases h1
    | some x =>
      rw [hxi] at h1
      cases h1
      obtain ⟨pp, hpp, _, _, e3⟩ := dv_get dv hxi
      have h2 : (kvs.map (·.2))[i]? = some d := h2
      rw [List.getElem?_map, hpp] at h2
      cases h2
      exact e3
  exact sort_fin I1 rv hd (DrA.dp _ _ hd) ok (by show X.A.units + 1 + 65 < cLine; omega) dm q
theorem cr_sortItems (hc : X.calm = true) (hu : X.A.units + 66 < cLine) : CallR X (.builtin "sorted") (rSortView X.K true) := by
  intro pins s σ H vs us Q I r h
  obtain ⟨p, a, O, xs, kvs, rfl, hp, ha, dm, dv, ok, q⟩ := h
  obtain rfl := Vals.ref1 r
  have view : s.heap.IsItemsView p a := (show ObjOk X.prog X.w H s.heap p (L2.DX.itemsO p a) from I.hok p _ hp).1
  obtain ⟨a1, a2, a4, ys, re, o, es, ep, ho, hx, hdat, hes, his, hn⟩ := od_of I ha dv
  have l1 := dv_length dv
  have l2 : xs.length = ys.length := Paired.length re
  have l3 : es.size = ys.length := size_of_entries hes
  refine DT.sortedI (es := es) (ep := ep) (I.ok.hd hc) view ⟨o, ho, hx, hdat⟩ (by omega) fun h' tk as hk hlt hl hG => ?_
  have I1 : Inv X pins σ H { s with heap := h', toks := tk } := I.kept (t' := tk) hk
  have nd : as.Nodup := List.Pairwise.imp (fun h => Nat.ne_of_lt h) hG.rise
  have pr : ∀ (j : Nat) (b : Addr), as[j]? = some b → ∃ x p, xs[j]? = some x ∧ kvs[j]? = some p ∧ Dr X.K O H (.ref x.2.1) p.1.data ∧ Dr X.K O H x.2.2 p.2 ∧ ∃ u, RelV x.2.2 u ∧ h'.get? b = some { cls := .type "tuple", data := .seq #[Value.ref x.2.1, u] } := by
    intro j b hj
    obtain ⟨en, he, hg⟩ := hG.pairs j b hj
    have hjx : j < xs.length := by have := (List.getElem?_eq_some_iff.mp hj).1; omega
    obtain ⟨y, hy, er⟩ := er_get re (List.getElem?_eq_getElem hjx)
    obtain ⟨pp, hpp, _, e2, e3⟩ := dv_get dv (List.getElem?_eq_getElem hjx)
    rw [entry_at hes j, hy] at he
    have een := Option.some.inj he
    refine ⟨_, pp, List.getElem?_eq_getElem hjx, hpp, e2, e3, y.2.2, er.2.2, ?_⟩
    rw [hg, ← een, er.2.1]
    all_goals rfl
  obtain ⟨H2, I3, g, qt⟩ := L2.DX.takeT (P := fun b vs => ∃ (j : Nat) (x : EnV), as[j]? = some b ∧ xs[j]? = some x ∧ vs = [.ref x.2.1, x.2.2]) I as H I1 nd fun b hb => by
    obtain ⟨j, hj⟩ := List.mem_iff_getElem?.mp hb
    obtain ⟨x, pp, hxj, _, _, _, u, ru, hg⟩ := pr j b hj
    have hbl : s.heap.objs.size ≤ b := Nat.le_of_lt (hG.above b hb)
    exact ⟨hbl, I.hok.fresh hbl, [.ref x.2.1, x.2.2], ⟨j, x, hj, hxj, rfl⟩, fun H3 => ⟨(by show 2 ≤ sizeLine; decide), [Value.ref x.2.1, u], .cons rfl (.cons ru .nil), ⟨_, hg, rfl, 0, rfl⟩⟩⟩
  have sm : Same H H2 := fun b o e => g b o e
  have dm2 : Dom O H2 := fun b hb => let ⟨o, e⟩ := dm b hb; ⟨o, g b o e⟩
  have hd : DrA X.K O H2 (as.map V.ref) (viewD true kvs) := dra_of_get (by show _ = (kvs.map _).length; rw [List.length_map, List.length_map]; omega) fun i v d h1 h2 => by
    rw [List.getElem?_map] at h1
    cases hai : as[i]? with
    | none => rw [hai] at h1; cases h1
    | some b =>
      rw [hai] at h1
      cases h1
      obtain ⟨x, pp, hxi, hpp, e2, e3, _⟩ := pr i b hai
      have h2 : (kvs.map fun p => PyData.tuple [p.1.data, p.2])[i]? = some d := h2
      rw [List.getElem?_map, hpp] at h2
      cases h2
      obtain ⟨vs, ⟨j, x', j1, j2, ev⟩, hH⟩ := qt b (List.mem_of_getElem? hai)
      have eij : i = j := (List.getElem?_inj (List.getElem?_eq_some_iff.mp hai).1 nd).mp (hai.trans j1.symm)
      subst eij
      rw [hxi] at j2
      cases j2
      subst ev
      have hnO : ¬ O b := fun z => by
        obtain ⟨o', e'⟩ := dm b z
        have hb := I.hok.fresh (Nat.le_of_lt (hG.above b (List.mem_of_getElem? hai)))
        rw [hb] at e'; cases e'
      exact .tup (.inl ⟨hH, hnO⟩) (.cons (e2.same sm) (.cons (e3.same sm) .nil))
  have rv : Vals (as.map V.ref) (as.map Value.ref) := vals_of_get (by simp) fun i v u h1 h2 => by
    rw [List.getElem?_map] at h1 h2
    cases hai : as[i]? with
    | none => rw [hai] at h1; cases h1
    | some b => rw [hai] at h1 h2; cases h1; cases h2; rfl
  refine wpAny_mono (sort_fin I3 rv hd (DrA.dp _ _ hd) ok (by show X.A.units + 1 + 65 < cLine; omega) dm2 (Q := Q) ?_) (fun _ _ x => x) fun _ _ e => e
  intro v H' s' d' f'
  exact q v H' (fun b o e => s' b o (sm b o e)) d' fun ds e => by
    obtain ⟨p', xs', r1, r2, r3, r4⟩ := f' ds e
    refine ⟨p', xs', r1, ?_, r3, r4⟩
    cases hp' : H p' with
    | none => rfl
    | some o' => rw [sm p' o' hp'] at r2; cases r2
end
end DL

set_option Elab.async false
set_option linter.all false
set_option maxRecDepth 100000
set_option maxHeartbeats 4000000
namespace DL
open PySem PySem.Spec PyProof.Rows L2

/-! ### a frame over data -/
/-- a slot: data that stand, a list that the frame owns, the draw -/
inductive Sl where
  | fz (d : D)
  | ow (d : D)
  | dr
  | od (kvs : List (NestedKey × D))
def Sl.isOw : Sl → Bool
  | .ow _ => true
  | .od _ => true
  | _ => false
abbrev Rho := List (Option Sl)
/-- what is fixed for a frame: what its callers own, the draw's list, what stood -/
structure Fm where
  O0 : Addr → Prop
  dA : Option Addr
  dC : Addr
  H0 : Hp
def DrawOk (K : PySem.W.Frag) (O : Addr → Prop) (H : Hp) (a c : Addr) : Prop :=
  ∃ (cells : List Int) (i cur seed : Int), H a = some (.lst [.ref c, .int i, .int cur, .int seed]) ∧ H c = some (.lst (cells.map V.int)) ∧ ¬ O c ∧ c ≠ a ∧ (∀ x ∈ cells, 0 ≤ x) ∧ cells.length ≤ 63 ∧ -1 ≤ i ∧ 0 ≤ cur ∧ 0 ≤ seed ∧ seed < 2147483647
def OwR (K : PySem.W.Frag) (O : Addr → Prop) (H : Hp) (a : Addr) (d : D) : Prop := ∃ xs ds, d = .list ds ∧ H a = some (.lst xs) ∧ DrA K O H xs ds
def SlotR (K : PySem.W.Frag) (F : Fm) (O : Addr → Prop) (H : Hp) (v : V) : Sl → Prop
  | .fz d => Dr K O H v d
  | .ow d => ∃ a, v = .ref a ∧ O a ∧ ¬ F.O0 a ∧ OwR K O H a d
  | .dr => ∃ a, F.dA = some a ∧ v = .ref a
  | .od kvs => ∃ a, v = .ref a ∧ O a ∧ ¬ F.O0 a ∧ OdR K O H a kvs
structure EnvR (K : PySem.W.Frag) (F : Fm) (O : Addr → Prop) (H : Hp) (σ : L2.St) (ρ : Rho) : Prop where
  len : σ.length = ρ.length
  slot : ∀ (i : Nat) (s : Sl), ρ[i]? = some (some s) → ∃ v, σ[i]? = some (some v) ∧ SlotR K F O H v s
  sep : ∀ (i j : Nat) (s t : Sl) (a : Addr), s.isOw = true → t.isOw = true → ρ[i]? = some (some s) → ρ[j]? = some (some t) → σ[i]? = some (some (.ref a)) → σ[j]? = some (some (.ref a)) → i = j
  sub : ∀ a, F.O0 a → O a
  dom : Dom O H
  unp : ∀ a, O a → ¬ F.O0 a → F.H0 a = none
  keep : ∀ b o, F.dA ≠ some b → F.H0 b = some o → H b = some o
  drw : ∀ a, F.dA = some a → F.O0 a ∧ DrawOk K O H a F.dC
/-- a step of an expression: all that stood stands, but the draw may have turned -/
structure Stp (K : PySem.W.Frag) (F : Fm) (O : Addr → Prop) (H H' : Hp) : Prop where
  keep : ∀ b o, F.dA ≠ some b → H b = some o → H' b = some o
  drw : ∀ a, F.dA = some a → DrawOk K O H' a F.dC
section
variable {K : PySem.W.Frag} {F : Fm} {O O' : Addr → Prop} {H H' H1 H2 : Hp} {σ : L2.St} {ρ : Rho} {v : V} {d : D}
theorem Stp.refl (e : EnvR K F O H σ ρ) : Stp K F O H H := ⟨fun _ _ _ h => h, fun a h => (e.drw a h).2⟩
theorem Stp.trans (a : Stp K F O H H1) (b : Stp K F O H1 H2) : Stp K F O H H2 := ⟨fun c o n h => b.keep c o n (a.keep c o n h), b.drw⟩
theorem DrawOk.same {a c : Addr} (h : DrawOk K O H a c) (s : Same H H') : DrawOk K O H' a c := by
  obtain ⟨cells, i, cur, seed, h1, h2, h3⟩ := h
  exact ⟨cells, i, cur, seed, s _ _ h1, s _ _ h2, h3⟩
theorem Stp.same (e : EnvR K F O H σ ρ) (s : Same H H') : Stp K F O H H' := ⟨fun b o _ h => s b o h, fun a h => (e.drw a h).2.same s⟩
theorem EnvR.nd (e : EnvR K F O H σ ρ) {b : Addr} (h : ¬ O b) : F.dA ≠ some b := fun q => h (e.sub b (e.drw b q).1)
theorem EnvR.ndo (e : EnvR K F O H σ ρ) {b : Addr} (h : ¬ F.O0 b) : F.dA ≠ some b := fun q => h (e.drw b q).1
theorem Dr.stp (e : EnvR K F O H σ ρ) (h : Dr K O H v d) (s : Stp K F O H H') : Dr K O H' v d := Dr.stay (fun _ _ _ n => n) (fun b o n q => s.keep b o (e.nd n) q) d v h
theorem DrA.stp {vs : List V} {ds : List D} (e : EnvR K F O H σ ρ) (h : DrA K O H vs ds) (s : Stp K F O H H') : DrA K O H' vs ds := DrA.stay (fun _ _ _ n => n) (fun b o n q => s.keep b o (e.nd n) q) ds vs h
theorem BDr.stp (e : EnvR K F O H σ ρ) (h : BDr K F.O0 O H v d) (s : Stp K F O H H') : BDr K F.O0 O H' v d := by
  rcases h with h | ⟨a, xs, ds, rfl, rfl, n, h1, h2⟩
  · exact .inl (h.stp e s)
  · exact .inr ⟨a, xs, ds, rfl, rfl, n, s.keep _ _ (e.ndo n) h1, h2.stp e s⟩
theorem Stp.free (e : EnvR K F O H σ ρ) (s : Stp K F O H H') {p : Addr} (h : H' p = none) : H p = none := by
  cases q : H p with
  | none => rfl
  | some o =>
    by_cases hd : F.dA = some p
    · obtain ⟨cells, i, cur, seed, h1, _⟩ := s.drw p hd
      rw [h] at h1; cases h1
    · rw [s.keep p o hd q] at h; cases h
theorem SlotR.stp {s : Sl} (e : EnvR K F O H σ ρ) (h : SlotR K F O H v s) (st : Stp K F O H H') : SlotR K F O H' v s := by
  cases s with
  | fz d => exact Dr.stp e h st
  | dr => exact h
  | ow d =>
    obtain ⟨a, rfl, h1, h2, xs, ds, rfl, h3, h4⟩ := h
    exact ⟨a, rfl, h1, h2, xs, ds, rfl, st.keep _ _ (e.ndo h2) h3, h4.stp e st⟩
  | od kvs =>
    obtain ⟨a, rfl, h1, h2, h3⟩ := h
    exact ⟨a, rfl, h1, h2, h3.map (fun o q => st.keep _ _ (e.ndo h2) q) fun v d q => Dr.stp e q st⟩
theorem EnvR.stp (e : EnvR K F O H σ ρ) (s : Stp K F O H H') : EnvR K F O H' σ ρ where
  len := e.len
  slot := fun i x h => by
    obtain ⟨v, h1, h2⟩ := e.slot i x h
    exact ⟨v, h1, h2.stp e s⟩
  sep := e.sep
  sub := e.sub
  dom := fun a h => by
    by_cases hd : F.dA = some a
    · obtain ⟨cells, i, cur, seed, h1, _⟩ := s.drw a hd
      exact ⟨_, h1⟩
    · obtain ⟨o, h1⟩ := e.dom a h
      exact ⟨o, s.keep a o hd h1⟩
  unp := e.unp
  keep := fun b o n h => s.keep b o n (e.keep b o n h)
  drw := fun a h => ⟨(e.drw a h).1, s.drw a h⟩
/-- a name's value, read -/
theorem EnvR.fz (e : EnvR K F O H σ ρ) {i : Nat} (h : ρ[i]? = some (some (.fz d))) : ∃ v, σ[i]? = some (some v) ∧ Dr K O H v d := e.slot i _ h
theorem EnvR.ow (e : EnvR K F O H σ ρ) {i : Nat} (h : ρ[i]? = some (some (.ow d))) : ∃ a xs ds, d = .list ds ∧ σ[i]? = some (some (.ref a)) ∧ O a ∧ ¬ F.O0 a ∧ H a = some (.lst xs) ∧ DrA K O H xs ds := by
  obtain ⟨v, h1, a, rfl, h2, h3, xs, ds, rfl, h4, h5⟩ := e.slot i _ h
  exact ⟨a, xs, ds, rfl, h1, h2, h3, h4, h5⟩
theorem EnvR.owB (e : EnvR K F O H σ ρ) {i : Nat} (h : ρ[i]? = some (some (.ow d))) : ∃ v, σ[i]? = some (some v) ∧ BDr K F.O0 O H v d := by
  obtain ⟨a, xs, ds, rfl, h1, h2, h3, h4, h5⟩ := e.ow h
  exact ⟨.ref a, h1, .inr ⟨a, xs, ds, rfl, rfl, h3, h4, h5⟩⟩

/-! ### slots stored -/
theorem get_set {α : Type} {l : List α} {i j : Nat} {x y : α} (h : (l.set i x)[j]? = some y) : (j = i ∧ y = x ∧ i < l.length) ∨ (j ≠ i ∧ l[j]? = some y) := by
  by_cases hj : j = i
  · subst hj
    by_cases hl : j < l.length
    · rw [List.getElem?_set_self hl] at h
      exact .inl ⟨rfl, (Option.some.inj h).symm, hl⟩
    · rw [List.getElem?_eq_none (by simpa using hl)] at h; cases h
  · rw [List.getElem?_set_ne (Ne.symm hj)] at h
    exact .inr ⟨hj, h⟩
/-- a name is bound to data -/
theorem EnvR.set (e : EnvR K F O H σ ρ) {i : Nat} (h : Dr K O H v d) : EnvR K F O H (σ.set i (some v)) (ρ.set i (some (.fz d))) where
  len := by rw [List.length_set, List.length_set]; exact e.len
  slot := fun j s q => by
    rcases get_set q with ⟨rfl, e2, hl⟩ | ⟨hj, q⟩
    · cases e2
      exact ⟨v, by rw [List.getElem?_set_self (by rw [e.len]; exact hl)], h⟩
    · obtain ⟨w, h1, h2⟩ := e.slot j s q
      exact ⟨w, by rw [List.getElem?_set_ne (Ne.symm hj)]; exact h1, h2⟩
  sep := fun j k d' e' a o1 o2 q1 q2 q3 q4 => by
    rcases get_set q1 with ⟨_, e2, _⟩ | ⟨hj, q1⟩
    · cases e2 <;> cases o1
    rcases get_set q2 with ⟨_, e2, _⟩ | ⟨hk, q2⟩
    · cases e2 <;> cases o2
    rw [List.getElem?_set_ne (Ne.symm hj)] at q3
    rw [List.getElem?_set_ne (Ne.symm hk)] at q4
    exact e.sep j k d' e' a o1 o2 q1 q2 q3 q4
  sub := e.sub
  dom := e.dom
  unp := e.unp
  keep := e.keep
  drw := e.drw
/-- a name is forgotten -/
theorem EnvR.unset (e : EnvR K F O H σ ρ) {i : Nat} (x : Option V) : EnvR K F O H (σ.set i x) (ρ.set i none) where
  len := by rw [List.length_set, List.length_set]; exact e.len
  slot := fun j s q => by
    rcases get_set q with ⟨rfl, e2, hl⟩ | ⟨hj, q⟩
    · cases e2
    · obtain ⟨w, h1, h2⟩ := e.slot j s q
      exact ⟨w, by rw [List.getElem?_set_ne (Ne.symm hj)]; exact h1, h2⟩
  sep := fun j k d' e' a o1 o2 q1 q2 q3 q4 => by
    rcases get_set q1 with ⟨_, e2, _⟩ | ⟨hj, q1⟩
    · cases e2 <;> cases o1
    rcases get_set q2 with ⟨_, e2, _⟩ | ⟨hk, q2⟩
    · cases e2 <;> cases o2
    rw [List.getElem?_set_ne (Ne.symm hj)] at q3
    rw [List.getElem?_set_ne (Ne.symm hk)] at q4
    exact e.sep j k d' e' a o1 o2 q1 q2 q3 q4
  sub := e.sub
  dom := e.dom
  unp := e.unp
  keep := e.keep
  drw := e.drw
/-- the heap grows by a new list that the frame is to own -/
theorem EnvR.own (e : EnvR K F O H σ ρ) {i : Nat} {p : Addr} {xs : List V} {ds : List D} (st : Stp K F O H H') (hp : H p = none) (hp' : H' p = some (.lst xs)) (h : DrA K (fun a => O a ∨ a = p) H' xs ds) :
    EnvR K F (fun a => O a ∨ a = p) H' (σ.set i (some (.ref p))) (ρ.set i (some (.ow (.list ds)))) := by
  have e' := e.stp st
  have np : ¬ O p := e.dom.fresh hp
  have up : ∀ {v : V} {d : D}, Dr K O H v d → Dr K (fun a => O a ∨ a = p) H' v d := fun {v d} hd =>
    Dr.stay (fun a o hq n q => by
      rcases q with q | q
      · exact n q
      · rw [q, hp] at hq; cases hq) (fun b o n q => st.keep b o (e.nd n) q) d v hd
  have upA : ∀ {v : List V} {d : List D}, DrA K O H v d → DrA K (fun a => O a ∨ a = p) H' v d := fun {v d} hd =>
    DrA.stay (fun a o hq n q => by
      rcases q with q | q
      · exact n q
      · rw [q, hp] at hq; cases hq) (fun b o n q => st.keep b o (e.nd n) q) d v hd
  have nO : ¬ F.O0 p := fun q => np (e.sub p q)
  refine ⟨by rw [List.length_set, List.length_set]; exact e.len, fun j s q => ?_, fun j k d' e2 a o1 o2 q1 q2 q3 q4 => ?_, fun a h => .inl (e.sub a h), fun a h => ?_, fun a h n => ?_, e'.keep, fun a h => ?_⟩
  · rcases get_set q with ⟨rfl, e2, hl⟩ | ⟨hj, q⟩
    · cases e2
      exact ⟨.ref p, by rw [List.getElem?_set_self (by rw [e.len]; exact hl)], p, rfl, .inr rfl, nO, xs, ds, rfl, hp', h⟩
    · obtain ⟨w, h1, h2⟩ := e.slot j s q
      refine ⟨w, by rw [List.getElem?_set_ne (Ne.symm hj)]; exact h1, ?_⟩
      cases s with
      | fz d => exact up h2
      | dr => exact h2
      | ow d =>
        obtain ⟨a, rfl, h3, h4, ys, es, rfl, h5, h6⟩ := h2
        exact ⟨a, rfl, .inl h3, h4, ys, es, rfl, st.keep _ _ (e.ndo h4) h5, upA h6⟩
      | od kvs =>
        obtain ⟨a, rfl, h3, h4, h5⟩ := h2
        exact ⟨a, rfl, .inl h3, h4, h5.map (fun o q => st.keep _ _ (e.ndo h4) q) fun v d q => up q⟩
  · have fresh : ∀ {m : Nat} {f : Sl}, f.isOw = true → ρ[m]? = some (some f) → σ[m]? = some (some (.ref p)) → False := fun {m f} ho h1 h2 => by
      have g2 : O p := by
        obtain ⟨w, g1, g2⟩ := e.slot m _ h1
        rw [h2] at g1
        cases g1
        cases f with
        | ow f => obtain ⟨b, e1, g2, _⟩ := g2; cases e1; exact g2
        | od f => obtain ⟨b, e1, g2, _⟩ := g2; cases e1; exact g2
        | _ => cases ho
      exact np g2
    have hlen : ∀ {m : Nat}, m = i → m < ρ.length → (σ.set i (some (V.ref p)))[m]? = some (some (V.ref p)) := fun {m} hm hl => by
      rw [hm, List.getElem?_set_self (by rw [e.len, ← hm]; exact hl)]
    rcases get_set q1 with ⟨ej, e3, hl⟩ | ⟨hj, q1⟩
    · rcases get_set q2 with ⟨ek, e4, _⟩ | ⟨hk, q2⟩
      · rw [ej, ek]
      · rw [hlen ej (by rw [ej]; exact hl)] at q3
        cases q3
        rw [List.getElem?_set_ne (Ne.symm hk)] at q4
        exact (fresh o2 q2 q4).elim
    · rcases get_set q2 with ⟨ek, e4, hl⟩ | ⟨hk, q2⟩
      · rw [hlen ek (by rw [ek]; exact hl)] at q4
        cases q4
        rw [List.getElem?_set_ne (Ne.symm hj)] at q3
        exact (fresh o1 q1 q3).elim
      · rw [List.getElem?_set_ne (Ne.symm hj)] at q3
        rw [List.getElem?_set_ne (Ne.symm hk)] at q4
        exact e.sep j k d' e2 a o1 o2 q1 q2 q3 q4
  · rcases h with h | rfl
    · exact e'.dom a h
    · exact ⟨_, hp'⟩
  · rcases h with h | rfl
    · exact e.unp a h n
    · cases q : F.H0 a with
      | none => rfl
      | some o =>
        by_cases hd : F.dA = some a
        · exact absurd (e.drw a hd).1 n
        · rw [e.keep a o hd q] at hp; cases hp
  · obtain ⟨h1, cells, i', cur, seed, g1, g2, g3, g4⟩ := e'.drw a h
    refine ⟨h1, cells, i', cur, seed, g1, g2, fun q => ?_, g4⟩
    rcases q with q | q
    · exact g3 q
    · obtain ⟨_, cells0, i0, cur0, seed0, k1, k2, _⟩ := e.drw a h
      rw [q, hp] at k2; cases k2
/-- a list of the frame's own changes -/
theorem EnvR.mut (e : EnvR K F O H σ ρ) {i : Nat} {a : Addr} {d : D} {xs : List V} {ds : List D} (hi : ρ[i]? = some (some (.ow d))) (hs : σ[i]? = some (some (.ref a))) (h : DrA K O H xs ds) :
    EnvR K F O (upd H a (.lst xs)) σ (ρ.set i (some (.ow (.list ds)))) := by
  obtain ⟨v, h1, a', rfl, h2, h3, xs0, ds0, rfl, h4, h5⟩ := e.slot i _ hi
  rw [hs] at h1
  cases h1
  have kp : ∀ b o, ¬ O b → H b = some o → (upd H a (.lst xs)) b = some o := fun b o n q => by
    rw [upd_ne (fun z => n (by rw [z]; exact h2))]
    exact q
  have up : ∀ {v : V} {d : D}, Dr K O H v d → Dr K O (upd H a (.lst xs)) v d := fun {v d} hd => Dr.stay (fun _ _ _ n => n) kp d v hd
  have upA : ∀ {v : List V} {d : List D}, DrA K O H v d → DrA K O (upd H a (.lst xs)) v d := fun {v d} hd => DrA.stay (fun _ _ _ n => n) kp d v hd
  have nda : F.dA ≠ some a := e.ndo h3
  refine ⟨by rw [List.length_set]; exact e.len, fun j s q => ?_, fun j k d' e2 b o1 o2 q1 q2 q3 q4 => ?_, e.sub, fun b hb => ?_, e.unp, fun b o n hb => ?_, fun b hb => ?_⟩
  · rcases get_set q with ⟨rfl, e2, hl⟩ | ⟨hj, q⟩
    · cases e2
      exact ⟨.ref a, hs, a, rfl, h2, h3, xs, ds, rfl, upd_same, upA h⟩
    · obtain ⟨w, g1, g2⟩ := e.slot j s q
      refine ⟨w, g1, ?_⟩
      cases s with
      | fz d => exact up g2
      | dr => exact g2
      | ow d =>
        obtain ⟨b, rfl, g3, g4, ys, es, rfl, g5, g6⟩ := g2
        have nb : b ≠ a := fun z => hj (by
          subst z
          exact e.sep j i _ _ b rfl rfl q hi g1 hs)
        exact ⟨b, rfl, g3, g4, ys, es, rfl, by rw [upd_ne nb]; exact g5, upA g6⟩
      | od kvs =>
        obtain ⟨b, rfl, g3, g4, g5⟩ := g2
        have nb : b ≠ a := fun z => hj (by
          subst z
          exact e.sep j i _ _ b rfl rfl q hi g1 hs)
        exact ⟨b, rfl, g3, g4, g5.map (fun o q => by rw [upd_ne nb]; exact q) fun v d q => up q⟩
  · have back : ∀ {m : Nat} {f : Sl}, f.isOw = true → (ρ.set i (some (.ow (.list ds))))[m]? = some (some f) → ∃ f' : Sl, f'.isOw = true ∧ ρ[m]? = some (some f') := fun {m f} ho hm => by
      rcases get_set hm with ⟨rfl, _, _⟩ | ⟨_, q⟩
      · exact ⟨_, rfl, hi⟩
      · exact ⟨_, ho, q⟩
    obtain ⟨f1, o1, q1⟩ := back o1 q1
    obtain ⟨f2, o2, q2⟩ := back o2 q2
    exact e.sep j k f1 f2 b o1 o2 q1 q2 q3 q4
  · by_cases hba : b = a
    · subst hba; exact ⟨_, upd_same⟩
    · rw [upd_ne hba]; exact e.dom b hb
  · have hba : b ≠ a := fun z => by
      rw [z, e.unp a h2 h3] at hb; cases hb
    rw [upd_ne hba]
    exact e.keep b o n hb
  · obtain ⟨g1, cells, i', cur, seed, k1, k2, k3, k4⟩ := e.drw b hb
    have nb : b ≠ a := fun z => nda (by rw [← z]; exact hb)
    have nc : F.dC ≠ a := fun z => k3 (by rw [z]; exact h2)
    exact ⟨g1, cells, i', cur, seed, by rw [upd_ne nb]; exact k1, by rw [upd_ne nc]; exact k2, k3, k4⟩
/-- a list of the frame's own is changed no more -/
theorem EnvR.freeze (e : EnvR K F O H σ ρ) {i : Nat} {d : D} (hi : ρ[i]? = some (some (.ow d))) : ∃ a, σ[i]? = some (some (.ref a)) ∧ EnvR K F (fun b => O b ∧ b ≠ a) H σ (ρ.set i (some (.fz d))) := by
  obtain ⟨v, h1, a, rfl, h2, h3, xs0, ds0, rfl, h4, h5⟩ := e.slot i _ hi
  have up : ∀ {v : V} {d : D}, Dr K O H v d → Dr K (fun b => O b ∧ b ≠ a) H v d := fun {v d} hd => Dr.stay (fun _ _ _ n q => n q.1) (fun _ _ _ q => q) d v hd
  have upA : ∀ {v : List V} {d : List D}, DrA K O H v d → DrA K (fun b => O b ∧ b ≠ a) H v d := fun {v d} hd => DrA.stay (fun _ _ _ n q => n q.1) (fun _ _ _ q => q) d v hd
  refine ⟨a, h1, by rw [List.length_set]; exact e.len, fun j s q => ?_, fun j k d' e2 b o1 o2 q1 q2 q3 q4 => ?_, fun b hb => ⟨e.sub b hb, fun z => h3 (by rw [← z]; exact hb)⟩, fun b hb => e.dom b hb.1, fun b hb n => e.unp b hb.1 n, e.keep, fun b hb => ?_⟩
  · rcases get_set q with ⟨rfl, e2, hl⟩ | ⟨hj, q⟩
    · cases e2
      exact ⟨.ref a, h1, .lst h4 (fun z => z.2 rfl) (upA h5)⟩
    · obtain ⟨w, g1, g2⟩ := e.slot j s q
      refine ⟨w, g1, ?_⟩
      cases s with
      | fz d => exact up g2
      | dr => exact g2
      | ow d =>
        obtain ⟨b, rfl, g3, g4, ys, es, rfl, g5, g6⟩ := g2
        exact ⟨b, rfl, ⟨g3, fun z => hj (by
          subst z
          exact e.sep j i _ _ b rfl rfl q hi g1 h1)⟩, g4, ys, es, rfl, g5, upA g6⟩
      | od kvs =>
        obtain ⟨b, rfl, g3, g4, g5⟩ := g2
        exact ⟨b, rfl, ⟨g3, fun z => hj (by
          subst z
          exact e.sep j i _ _ b rfl rfl q hi g1 h1)⟩, g4, g5.map (fun o q => q) fun v d q => up q⟩
  · rcases get_set q1 with ⟨_, e3, _⟩ | ⟨_, q1⟩
    · cases e3 <;> cases o1
    rcases get_set q2 with ⟨_, e3, _⟩ | ⟨_, q2⟩
    · cases e3 <;> cases o2
    exact e.sep j k d' e2 b o1 o2 q1 q2 q3 q4
  · obtain ⟨g1, cells, i', cur, seed, k1, k2, k3, k4⟩ := e.drw b hb
    exact ⟨g1, cells, i', cur, seed, k1, k2, fun q => k3 q.1, k4⟩
/-- the heap grows by a new dict that the frame is to own -/
theorem EnvR.ownD (e : EnvR K F O H σ ρ) {i : Nat} {p : Addr} {kvs : List (NestedKey × D)} (st : Stp K F O H H') (hp : H p = none) (h : OdR K (fun a => O a ∨ a = p) H' p kvs) :
    EnvR K F (fun a => O a ∨ a = p) H' (σ.set i (some (.ref p))) (ρ.set i (some (.od kvs))) := by
  have e' := e.stp st
  have np : ¬ O p := e.dom.fresh hp
  have up : ∀ {v : V} {d : D}, Dr K O H v d → Dr K (fun a => O a ∨ a = p) H' v d := fun {v d} hd =>
    Dr.stay (fun a o hq n q => by
      rcases q with q | q
      · exact n q
      · rw [q, hp] at hq; cases hq) (fun b o n q => st.keep b o (e.nd n) q) d v hd
  have upA : ∀ {v : List V} {d : List D}, DrA K O H v d → DrA K (fun a => O a ∨ a = p) H' v d := fun {v d} hd =>
    DrA.stay (fun a o hq n q => by
      rcases q with q | q
      · exact n q
      · rw [q, hp] at hq; cases hq) (fun b o n q => st.keep b o (e.nd n) q) d v hd
  have nO : ¬ F.O0 p := fun q => np (e.sub p q)
  refine ⟨by rw [List.length_set, List.length_set]; exact e.len, fun j s q => ?_, fun j k d' e2 a o1 o2 q1 q2 q3 q4 => ?_, fun a h => .inl (e.sub a h), fun a h2 => ?_, fun a h n => ?_, e'.keep, fun a h => ?_⟩
  · rcases get_set q with ⟨rfl, e2, hl⟩ | ⟨hj, q⟩
    · cases e2
      exact ⟨.ref p, by rw [List.getElem?_set_self (by rw [e.len]; exact hl)], p, rfl, .inr rfl, nO, h⟩
    · obtain ⟨w, h1, h2⟩ := e.slot j s q
      refine ⟨w, by rw [List.getElem?_set_ne (Ne.symm hj)]; exact h1, ?_⟩
      cases s with
      | fz d => exact up h2
      | dr => exact h2
      | ow d =>
        obtain ⟨a, rfl, h3, h4, ys, es, rfl, h5, h6⟩ := h2
        exact ⟨a, rfl, .inl h3, h4, ys, es, rfl, st.keep _ _ (e.ndo h4) h5, upA h6⟩
      | od kvs =>
        obtain ⟨a, rfl, h3, h4, h5⟩ := h2
        exact ⟨a, rfl, .inl h3, h4, h5.map (fun o q => st.keep _ _ (e.ndo h4) q) fun v d q => up q⟩
  · have fresh : ∀ {m : Nat} {f : Sl}, f.isOw = true → ρ[m]? = some (some f) → σ[m]? = some (some (.ref p)) → False := fun {m f} ho h1 h2 => by
      have g2 : O p := by
        obtain ⟨w, g1, g2⟩ := e.slot m _ h1
        rw [h2] at g1
        cases g1
        cases f with
        | ow f => obtain ⟨b, e1, g2, _⟩ := g2; cases e1; exact g2
        | od f => obtain ⟨b, e1, g2, _⟩ := g2; cases e1; exact g2
        | _ => cases ho
      exact np g2
    have hlen : ∀ {m : Nat}, m = i → m < ρ.length → (σ.set i (some (V.ref p)))[m]? = some (some (V.ref p)) := fun {m} hm hl => by
      rw [hm, List.getElem?_set_self (by rw [e.len, ← hm]; exact hl)]
    rcases get_set q1 with ⟨ej, e3, hl⟩ | ⟨hj, q1⟩
    · rcases get_set q2 with ⟨ek, e4, _⟩ | ⟨hk, q2⟩
      · rw [ej, ek]
      · rw [hlen ej (by rw [ej]; exact hl)] at q3
        cases q3
        rw [List.getElem?_set_ne (Ne.symm hk)] at q4
        exact (fresh o2 q2 q4).elim
    · rcases get_set q2 with ⟨ek, e4, hl⟩ | ⟨hk, q2⟩
      · rw [hlen ek (by rw [ek]; exact hl)] at q4
        cases q4
        rw [List.getElem?_set_ne (Ne.symm hj)] at q3
        exact (fresh o1 q1 q3).elim
      · rw [List.getElem?_set_ne (Ne.symm hj)] at q3
        rw [List.getElem?_set_ne (Ne.symm hk)] at q4
        exact e.sep j k d' e2 a o1 o2 q1 q2 q3 q4
  · rcases h2 with h2 | rfl
    · exact e'.dom a h2
    · obtain ⟨xs, hx, _⟩ := h
      exact ⟨_, hx⟩
  · rcases h with h | rfl
    · exact e.unp a h n
    · cases q : F.H0 a with
      | none => rfl
      | some o =>
        by_cases hd : F.dA = some a
        · exact absurd (e.drw a hd).1 n
        · rw [e.keep a o hd q] at hp; cases hp
  · obtain ⟨h1, cells, i', cur, seed, g1, g2, g3, g4⟩ := e'.drw a h
    refine ⟨h1, cells, i', cur, seed, g1, g2, fun q => ?_, g4⟩
    rcases q with q | q
    · exact g3 q
    · obtain ⟨_, cells0, i0, cur0, seed0, k1, k2, _⟩ := e.drw a h
      rw [q, hp] at k2; cases k2
/-- a dict of the frame's own changes -/
theorem EnvR.mutD (e : EnvR K F O H σ ρ) {i : Nat} {a : Addr} {kvs0 : List (NestedKey × D)} {xs : List EnV} {kvs : List (NestedKey × D)} (hi : ρ[i]? = some (some (.od kvs0))) (hs : σ[i]? = some (some (.ref a))) (h : DV K O H xs kvs) :
    EnvR K F O (upd H a (dctO a xs)) σ (ρ.set i (some (.od kvs))) := by
  obtain ⟨v, h1, a', rfl, h2, h3, h4⟩ := e.slot i _ hi
  rw [hs] at h1
  cases h1
  have kp : ∀ b o, ¬ O b → H b = some o → (upd H a (dctO a xs)) b = some o := fun b o n q => by
    rw [upd_ne (fun z => n (by rw [z]; exact h2))]
    exact q
  have up : ∀ {v : V} {d : D}, Dr K O H v d → Dr K O (upd H a (dctO a xs)) v d := fun {v d} hd => Dr.stay (fun _ _ _ n => n) kp d v hd
  have upA : ∀ {v : List V} {d : List D}, DrA K O H v d → DrA K O (upd H a (dctO a xs)) v d := fun {v d} hd => DrA.stay (fun _ _ _ n => n) kp d v hd
  have nda : F.dA ≠ some a := e.ndo h3
  refine ⟨by rw [List.length_set]; exact e.len, fun j s q => ?_, fun j k d' e2 b o1 o2 q1 q2 q3 q4 => ?_, e.sub, fun b hb => ?_, e.unp, fun b o n hb => ?_, fun b hb => ?_⟩
  · rcases get_set q with ⟨rfl, e2, hl⟩ | ⟨hj, q⟩
    · cases e2
      exact ⟨.ref a, hs, a, rfl, h2, h3, xs, upd_same, Paired.mapP h fun x p z => ⟨z.1, up z.2.1, up z.2.2⟩⟩
    · obtain ⟨w, g1, g2⟩ := e.slot j s q
      refine ⟨w, g1, ?_⟩
      cases s with
      | fz d => exact up g2
      | dr => exact g2
      | ow d =>
        obtain ⟨b, rfl, g3, g4, ys, es, rfl, g5, g6⟩ := g2
        have nb : b ≠ a := fun z => hj (by
          subst z
          exact e.sep j i _ _ b rfl rfl q hi g1 hs)
        exact ⟨b, rfl, g3, g4, ys, es, rfl, by rw [upd_ne nb]; exact g5, upA g6⟩
      | od kvs =>
        obtain ⟨b, rfl, g3, g4, g5⟩ := g2
        have nb : b ≠ a := fun z => hj (by
          subst z
          exact e.sep j i _ _ b rfl rfl q hi g1 hs)
        exact ⟨b, rfl, g3, g4, g5.map (fun o q => by rw [upd_ne nb]; exact q) fun v d q => up q⟩
  · have back : ∀ {m : Nat} {f : Sl}, f.isOw = true → (ρ.set i (some (.od kvs)))[m]? = some (some f) → ∃ f' : Sl, f'.isOw = true ∧ ρ[m]? = some (some f') := fun {m f} ho hm => by
      rcases get_set hm with ⟨rfl, _, _⟩ | ⟨_, q⟩
      · exact ⟨_, rfl, hi⟩
      · exact ⟨_, ho, q⟩
    obtain ⟨f1, o1, q1⟩ := back o1 q1
    obtain ⟨f2, o2, q2⟩ := back o2 q2
    exact e.sep j k f1 f2 b o1 o2 q1 q2 q3 q4
  · by_cases hba : b = a
    · subst hba; exact ⟨_, upd_same⟩
    · rw [upd_ne hba]; exact e.dom b hb
  · have hba : b ≠ a := fun z => by
      rw [z, e.unp a h2 h3] at hb; cases hb
    rw [upd_ne hba]
    exact e.keep b o n hb
  · obtain ⟨g1, cells, i', cur, seed, k1, k2, k3, k4⟩ := e.drw b hb
    have nb : b ≠ a := fun z => nda (by rw [← z]; exact hb)
    have nc : F.dC ≠ a := fun z => k3 (by rw [z]; exact h2)
    exact ⟨g1, cells, i', cur, seed, by rw [upd_ne nb]; exact k1, by rw [upd_ne nc]; exact k2, k3, k4⟩
theorem EnvR.odAt (e : EnvR K F O H σ ρ) {i : Nat} {kvs : List (NestedKey × D)} (h : ρ[i]? = some (some (.od kvs))) : ∃ a xs, σ[i]? = some (some (.ref a)) ∧ O a ∧ ¬ F.O0 a ∧ H a = some (dctO a xs) ∧ DV K O H xs kvs := by
  obtain ⟨v, h1, a, rfl, h2, h3, xs, h4, h5⟩ := e.slot i _ h
  exact ⟨a, xs, h1, h2, h3, h4, h5⟩
/-- a loop's turns: what stands at its start is kept through it -/
noncomputable def cutH (F : Fm) (O : Addr → Prop) (H : Hp) : Hp := fun b => open Classical in if O b ∧ ¬ F.O0 b then none else H b
theorem cutH_none {b : Addr} (h : O b ∧ ¬ F.O0 b) : cutH F O H b = none := by unfold cutH; rw [if_pos h]
theorem cutH_some {b : Addr} (h : ¬ (O b ∧ ¬ F.O0 b)) : cutH F O H b = H b := by unfold cutH; rw [if_neg h]
theorem of_cutH {b : Addr} {o : HO} (h : cutH F O H b = some o) : H b = some o := by
  by_cases c : O b ∧ ¬ F.O0 b
  · rw [cutH_none c] at h; cases h
  · rw [cutH_some c] at h; exact h
noncomputable def Fm.at (F : Fm) (O : Addr → Prop) (H : Hp) : Fm := { F with H0 := cutH F O H }
theorem EnvR.into (e : EnvR K F O H σ ρ) : EnvR K (F.at O H) O H σ ρ where
  len := e.len
  slot := fun i s q => by
    obtain ⟨v, h1, h2⟩ := e.slot i s q
    exact ⟨v, h1, by cases s <;> exact h2⟩
  sep := e.sep
  sub := e.sub
  dom := e.dom
  unp := fun a h n => cutH_none ⟨h, n⟩
  keep := fun b o n h => of_cutH h
  drw := e.drw
theorem EnvR.back {σ' : L2.St} {ρ' : Rho} (e : EnvR K F O H σ ρ) (e' : EnvR K (F.at O H) O' H' σ' ρ') : EnvR K F O' H' σ' ρ' where
  len := e'.len
  slot := fun i s q => by
    obtain ⟨v, h1, h2⟩ := e'.slot i s q
    exact ⟨v, h1, by cases s <;> exact h2⟩
  sep := e'.sep
  sub := e'.sub
  dom := e'.dom
  unp := fun a h n => by
    have h1 : cutH F O H a = none := e'.unp a h n
    by_cases c : O a ∧ ¬ F.O0 a
    · exact e.unp a c.1 c.2
    · rw [cutH_some c] at h1
      cases q : F.H0 a with
      | none => rfl
      | some o =>
        by_cases hd : F.dA = some a
        · exact absurd (e.drw a hd).1 n
        · rw [e.keep a o hd q] at h1; cases h1
  keep := fun b o n h => e'.keep b o n (by
    show cutH F O H b = some o
    rw [cutH_some (fun c => by rw [e.unp b c.1 c.2] at h; cases h)]
    exact e.keep b o n h)
  drw := e'.drw
/-- what stood at the loop's start and was nobody's own stands in each turn -/
theorem EnvR.stood {σ' : L2.St} {ρ' : Rho} (e : EnvR K F O H σ ρ) (e' : EnvR K (F.at O H) O' H' σ' ρ') {b : Addr} {o : HO} (n : ¬ O b) (h : H b = some o) : ¬ O' b ∧ H' b = some o := by
  have h0 : (F.at O H).H0 b = some o := by
    show cutH F O H b = some o
    rw [cutH_some (fun c => n c.1)]
    exact h
  have nO : ¬ F.O0 b := fun q => n (e.sub b q)
  refine ⟨fun q => ?_, e'.keep b o (e.nd n) h0⟩
  have := e'.unp b q nO
  rw [h0] at this; cases this
theorem DrA.stood {σ' : L2.St} {ρ' : Rho} {vs : List V} {ds : List D} (e : EnvR K F O H σ ρ) (e' : EnvR K (F.at O H) O' H' σ' ρ') (h : DrA K O H vs ds) : DrA K O' H' vs ds :=
  DrA.stay (fun a o q n => (e.stood e' n q).1) (fun b o n q => (e.stood e' n q).2) ds vs h
end
end DL

set_option Elab.async false
set_option linter.all false
set_option maxRecDepth 100000
set_option maxHeartbeats 4000000
namespace DL
open PySem PySem.Spec PyProof.Rows L2

/-! ### subscripts, slices, truth -/
def R2A (K : PySem.W.Frag) (f : D → D → (D → Prop) → Prop) : R2 := fun x y H Q => ∃ N O d e, Dom O H ∧ BDr K N O H x d ∧ BDr K N O H y e ∧ ∃ P, f d e P ∧ ∀ r, P r → Ans K O H Q r
def dSub1 : D → D → (D → Prop) → Prop
  | .list ds, .int i, Q => optQ (atI ds i) Q
  | .tuple ds, .int i, Q => optQ (atI ds i) Q
  | .str z, .int i, Q => z.length ≤ sizeLine ∧ optQ (atI z.cps.toList i) fun c => Q (.str ⟨#[c]⟩)
  | _, _, _ => False
theorem DrA.atI {K : PySem.W.Frag} {O : Addr → Prop} {H : Hp} {xs : List V} {ds : List D} {i : Int} {d : D} (h : DrA K O H xs ds) (e : L2.atI ds i = some d) : ∃ v, L2.atI xs i = some v ∧ Dr K O H v d := by
  unfold L2.atI at e ⊢
  rw [h.length]
  cases q : ixN ds.length i with
  | none => rw [q] at e; cases e
  | some j =>
    rw [q] at e
    exact h.at (show ds[j]? = some d from e)
section
variable {X : Cx}
theorem ix_d : IxR X (R2A X.K dSub1) := by
  intro value slice pins s σ H x y v u Q I rx ry h hs
  obtain ⟨N, O, d, e, dm, hx, hy, P, q, hP⟩ := h
  unfold dSub1 at q
  split at q
  · obtain ⟨r, e1, q⟩ := optQ_iff q
    obtain ⟨a, xs, rfl, h1, h2⟩ := hx.lst
    rw [hy.int] at ry
    obtain ⟨w, e2, h3⟩ := h2.atI e1
    exact ix_list value slice pins s σ H _ _ v u Q I rx ry ⟨a, xs, _, w, rfl, rfl, SqL.of h1, e2, hP _ q _ _ (Same.refl H) h3⟩ hs
  · obtain ⟨r, e1, q⟩ := optQ_iff q
    obtain ⟨a, xs, rfl, h1, h2⟩ := hx.tup
    rw [hy.int] at ry
    obtain ⟨w, e2, h3⟩ := h2.atI e1
    exact ix_tup value slice pins s σ H _ _ v u Q I rx ry ⟨a, xs, _, w, rfl, rfl, h1, e2, hP _ q _ _ (Same.refl H) h3⟩ hs
  · obtain ⟨h0, q⟩ := q
    obtain ⟨r, e1, q⟩ := optQ_iff q
    rw [hx.str] at rx
    rw [hy.int] at ry
    exact ix_str value slice pins s σ H _ _ v u Q I rx ry ⟨_, _, r, rfl, rfl, h0, e1, hP _ q _ _ (Same.refl H) (.str _)⟩ hs
  · exact q.elim
def cutL {α : Type} (xs : List α) (lo hi : Option Int) : List α := (xs.drop (HT.sIx xs.length 0 lo)).take (HT.sIx xs.length xs.length hi - HT.sIx xs.length 0 lo)
theorem cutV_eq (xs : List V) (lo hi : Option Int) : cutV xs lo hi = cutL xs lo hi := rfl
theorem DrA.cut {K : PySem.W.Frag} {O : Addr → Prop} {H : Hp} {xs : List V} {ds : List D} (h : DrA K O H xs ds) (lo hi : Option Int) : DrA K O H (cutL xs lo hi) (cutL ds lo hi) := by
  unfold cutL
  rw [h.length]
  exact (h.drop _).take _
def dCut : D → Option Int → Option Int → (D → Prop) → Prop
  | .list ds, lo, hi, Q => Q (.list (cutL ds lo hi))
  | .tuple ds, lo, hi, Q => Q (.tuple (cutL ds lo hi))
  | .str z, lo, hi, Q => z.length ≤ sizeLine ∧ Q (.str (cutS z lo hi))
  | _, _, _, _ => False
def RSD (K : PySem.W.Frag) : V → Option Int → Option Int → Hp → VK → Prop := fun x lo hi H Q => ∃ N O d, Dom O H ∧ BDr K N O H x d ∧ ∃ P, dCut d lo hi P ∧ ∀ r, P r → AnsF K O H Q r
theorem cut_whole {ds : List D} {lo hi : Option Int} (h1 : HT.sIx ds.length 0 lo = 0) (h2 : HT.sIx ds.length ds.length hi = ds.length) : cutL ds lo hi = ds := by
  unfold cutL
  rw [h1, h2, List.drop_zero, Nat.sub_zero, List.take_length]
theorem sl_d : SlR X (RSD X.K) := by
  intro pins s σ H x v vl vu lo hi sl Q I rx hs pl pu h
  obtain ⟨N, O, d, dm, hx, P, q, hP⟩ := h
  unfold dCut at q
  split at q
  · obtain ⟨a, xs, rfl, h1, h2⟩ := hx.lst
    exact sl_list pins s σ H _ v vl vu _ _ sl Q I rx hs pl pu ⟨a, xs, rfl, SqL.of h1, (hP _ q).lst dm (h2.cut _ _)⟩
  · have hd := hx.tupDr
    obtain ⟨a, xs, rfl, h1, h2⟩ := hx.tup
    refine sl_tupA pins s σ H _ v vl vu _ _ sl Q I rx hs pl pu ⟨a, xs, rfl, h1, fun w => ?_, fun _ => (hP _ q).tup dm (h2.cut _ _)⟩
    rw [h2.length] at w
    rw [cut_whole w.1 w.2] at q
    exact (hP _ q).same hd fun _ => nofun
  · rw [hx.str] at rx
    exact sl_str pins s σ H _ v vl vu _ _ sl Q I rx hs pl pu ⟨_, rfl, q.1, (hP _ q.2).str⟩
  · exact q.elim
/-! truth -/
def truD : D → Option Bool
  | .none => some false
  | .bool b => some b
  | .int i => some (i != 0)
  | .str z => if z.length ≤ sizeLine then some ((z.length : Int) != 0) else none
  | .list ds => some (!ds.isEmpty)
  | .tuple ds => some (!ds.isEmpty)
  | .dict _ => none
theorem DrA.empty {K : PySem.W.Frag} {O : Addr → Prop} {H : Hp} {xs : List V} {ds : List D} (h : DrA K O H xs ds) : xs.isEmpty = ds.isEmpty := by
  cases h <;> rfl
theorem tru_d {K : PySem.W.Frag} {N : Addr → Prop} {O : Addr → Prop} {H : Hp} {v : V} {d : D} {c : Bool} (h : BDr K N O H v d) (e : truD d = some c) : TruV K v H c := by
  cases d with
  | none => rw [h.non]; exact (Option.some.inj e).symm
  | bool b => rw [h.bl]; exact (Option.some.inj e).symm
  | int i => rw [h.int]; exact (Option.some.inj e).symm
  | str z =>
    rw [h.str]
    have e' : (if z.length ≤ sizeLine then some ((z.length : Int) != 0) else none) = some c := e
    by_cases hz : z.length ≤ sizeLine
    · rw [if_pos hz] at e'
      exact ⟨hz, (Option.some.inj e').symm⟩
    · rw [if_neg hz] at e'
      cases e'
  | list ds =>
    obtain ⟨a, xs, rfl, h1, h2⟩ := h.lst
    exact .inl ⟨xs, SqL.of h1, by rw [h2.empty]; exact (Option.some.inj e).symm⟩
  | tuple ds =>
    obtain ⟨a, xs, rfl, h1, h2⟩ := h.tup
    exact .inr (.inl ⟨xs, h1, by rw [h2.empty]; exact (Option.some.inj e).symm⟩)
  | dict _ => cases e
end

/-! ### what is walked -/
/-- J gives the data ds, in all states that R allows -/
def Wk (K : PySem.W.Frag) (R : (Addr → Prop) → Hp → Prop) (J : It) (ds : List D) : Prop :=
  ∃ (G : Hp → Prop) (Y : Nat → Hp → V → Hp → Prop), Walk J ds.length G Y ∧ (∀ O' H', R O' H' → G H') ∧
    ∀ O' H' i x H'', R O' H' → Dom O' H' → i < ds.length → Y i H' x H'' → Same H' H'' ∧ ∃ d, ds[i]? = some d ∧ Dr K O' H'' x d
section
variable {K : PySem.W.Frag} {R : (Addr → Prop) → Hp → Prop} {a b : Addr} {xs ys : List V} {ds es : List D}
theorem wk_list (h1 : ∀ O' H', R O' H' → SqL K H' a xs) (h2 : ∀ O' H', R O' H' → DrA K O' H' xs ds) (hl : xs.length = ds.length) : Wk K R (Itl K a) ds := by
  refine ⟨fun H => SqL K H a xs, YAt xs, by rw [← hl]; exact walk_list, h1, fun O' H' i x H'' r dm hi y => ?_⟩
  obtain ⟨rfl, e⟩ := y
  obtain ⟨d, e2, h3⟩ := (h2 O' _ r).get e
  exact ⟨Same.refl _, d, e2, h3⟩
theorem wk_tup (h1 : ∀ O' H', R O' H' → SqT K H' a xs) (h2 : ∀ O' H', R O' H' → DrA K O' H' xs ds) (hl : xs.length = ds.length) : Wk K R (Itt K a) ds := by
  refine ⟨fun H => SqT K H a xs, YAt xs, by rw [← hl]; exact walk_tup, h1, fun O' H' i x H'' r dm hi y => ?_⟩
  obtain ⟨rfl, e⟩ := y
  obtain ⟨d, e2, h3⟩ := (h2 O' _ r).get e
  exact ⟨Same.refl _, d, e2, h3⟩
def rangeD (lo : Int) (n : Nat) : List D := (List.range n).map fun (i : Nat) => PyData.int (lo + i)
theorem wk_range {lo : Int} {n : Nat} : Wk K R (Itr lo n) (rangeD lo n) := by
  refine ⟨fun _ => True, YFn fun i => .int (lo + i), by unfold rangeD; rw [List.length_map, List.length_range]; exact walk_range, fun _ _ _ => trivial, fun O' H' i x H'' r dm hi y => ?_⟩
  obtain ⟨rfl, rfl⟩ := y
  refine ⟨Same.refl _, .int (lo + i), ?_, .int _⟩
  unfold rangeD at hi ⊢
  rw [List.length_map, List.length_range] at hi
  rw [List.getElem?_map, List.getElem?_range hi]
  rfl
theorem dr_pair {O : Addr → Prop} {H : Hp} {T : Addr} {x y : V} {d e : D} (dm : Dom O H) (hT : H T = none) (h1 : Dr K O H x d) (h2 : Dr K O H y e) : Same H (upd H T (.tup [x, y])) ∧ Dr K O (upd H T (.tup [x, y])) (.ref T) (.tuple [d, e]) :=
  ⟨same_upd hT, .tup (.inl ⟨upd_same, dm.fresh hT⟩) (.cons (h1.same (same_upd hT)) (.cons (h2.same (same_upd hT)) .nil))⟩
def enumD (ds : List D) : List D := (rangeD 0 ds.length).zipWith (fun i d => PyData.tuple [i, d]) ds
theorem enumD_length (ds : List D) : (enumD ds).length = ds.length := by unfold enumD rangeD; simp
theorem enumD_get {ds : List D} {i : Nat} {d : D} (h : ds[i]? = some d) : (enumD ds)[i]? = some (.tuple [.int i, d]) := by
  have hi : i < ds.length := (List.getElem?_eq_some_iff.mp h).1
  unfold enumD rangeD
  rw [List.getElem?_zipWith, List.getElem?_map, List.getElem?_range hi, h]
  simp
theorem wk_enum (h1 : ∀ O' H', R O' H' → SqL K H' a xs) (h2 : ∀ O' H', R O' H' → DrA K O' H' xs ds) (hl : xs.length = ds.length) : Wk K R (Ite K a) (enumD ds) := by
  refine ⟨fun H => SqL K H a xs, _, by rw [enumD_length, ← hl]; exact walk_enum, h1, fun O' H' i x H'' r dm hi y => ?_⟩
  obtain ⟨T, u, v, rfl, hT, rfl, e1, e2⟩ := y
  cases e1
  obtain ⟨d, e3, h3⟩ := (h2 O' _ r).get e2
  obtain ⟨p1, p2⟩ := dr_pair dm hT (.int (i : Nat)) h3
  exact ⟨p1, _, enumD_get e3, p2⟩
def zipD (ds es : List D) : List D := ds.zipWith (fun a b => PyData.tuple [a, b]) es
theorem zipD_get {ds es : List D} {i : Nat} {d e : D} (h : ds[i]? = some d) (h2 : es[i]? = some e) : (zipD ds es)[i]? = some (.tuple [d, e]) := by
  unfold zipD
  rw [List.getElem?_zipWith, h, h2]
theorem wk_zipL (h1 : ∀ O' H', R O' H' → SqL K H' a xs) (h2 : ∀ O' H', R O' H' → DrA K O' H' xs ds) (hl : xs.length = ds.length) (g1 : ∀ O' H', R O' H' → SqL K H' b ys) (g2 : ∀ O' H', R O' H' → DrA K O' H' ys es) (gl : ys.length = es.length) :
    Wk K R (Itz K a b) (zipD ds es) := by
  refine ⟨fun H => SqL K H a xs ∧ SqL K H b ys, _, walk_zip (by unfold zipD; rw [List.length_zipWith, hl, gl]), fun O' H' r => ⟨h1 O' H' r, g1 O' H' r⟩, fun O' H' i x H'' r dm hi y => ?_⟩
  obtain ⟨T, u, v, rfl, hT, rfl, e1, e2⟩ := y
  obtain ⟨d, e3, h3⟩ := (h2 O' _ r).get e1
  obtain ⟨e, e4, h4⟩ := (g2 O' _ r).get e2
  obtain ⟨p1, p2⟩ := dr_pair dm hT h3 h4
  exact ⟨p1, _, zipD_get e3 e4, p2⟩
end
end DL

set_option Elab.async false
set_option linter.all false
set_option maxRecDepth 100000
set_option maxHeartbeats 4000000
namespace DL
open PySem PySem.Spec PyProof.Rows L2

/-! ### more operators, and all of them by their sign -/
def dIn (neg : Bool) : D → D → (D → Prop) → Prop
  | d, .list ds, Q => shp d ∧ shp (.list ds) ∧ Q (.bool (if neg then !(ds.any fun z => PyData.eqv z d) else ds.any fun z => PyData.eqv z d))
  | d, .tuple ds, Q => shp d ∧ shp (.tuple ds) ∧ Q (.bool (if neg then !(ds.any fun z => PyData.eqv z d) else ds.any fun z => PyData.eqv z d))
  | _, _, _ => False
def dNeg : D → (D → Prop) → Prop
  | .int i, Q => Q (.int (-i))
  | _, _ => False
def opF : Operator → D → D → (D → Prop) → Prop
  | .Add => dAdd
  | .Sub => dSub
  | .Mult => dMul
  | .Mod => dMod
  | .FloorDiv => dDiv
  | _ => fun _ _ _ => False
def cmpF : CmpOp → D → D → (D → Prop) → Prop
  | .Eq => dEq
  | .NotEq => dNe
  | .Lt => dLt
  | .LtE => dLe
  | .Gt => dGt
  | .GtE => dGe
  | .Is => dIs
  | .IsNot => dIsnt
  | .In => dIn false
  | .NotIn => dIn true
section
variable {X : Cx}
theorem op_dIn (hu : X.A.units + 65 < cLine) : OpR X (compareOp .In) (R2D X.K (dIn false)) := by
  intro pins s σ H x y v u Q I rx ry h
  obtain ⟨N, O, d, e, dm, hx, hy, P, q, hP⟩ := h
  obtain ⟨as, r1⟩ := Dp.reads I d x v hx.dp rx
  obtain ⟨bs, r2⟩ := Dp.reads I e y u hy.dp ry
  unfold dIn at q
  split at q
  · exact SeqAt.in_list_reads r2 r1 (SeqAt.canLay_of_shaped q.2.1) (SeqAt.canLay_of_shaped q.1) (room_in_shaped q.1 hu) ⟨.bl _, H, I, rfl, (hP _ q.2.2).bl⟩
  · exact SeqAt.in_tuple_reads r2 r1 (SeqAt.canLay_of_shaped q.2.1) (SeqAt.canLay_of_shaped q.1) (room_in_shaped q.1 hu) ⟨.bl _, H, I, rfl, (hP _ q.2.2).bl⟩
  · exact q.elim
theorem op_dNotIn (hu : X.A.units + 65 < cLine) : OpR X (compareOp .NotIn) (R2D X.K (dIn true)) := by
  intro pins s σ H x y v u Q I rx ry h
  obtain ⟨N, O, d, e, dm, hx, hy, P, q, hP⟩ := h
  obtain ⟨as, r1⟩ := Dp.reads I d x v hx.dp rx
  obtain ⟨bs, r2⟩ := Dp.reads I e y u hy.dp ry
  unfold dIn at q
  split at q
  · exact SeqAt.notIn_list_reads r2 r1 (SeqAt.canLay_of_shaped q.2.1) (SeqAt.canLay_of_shaped q.1) (room_in_shaped q.1 hu) ⟨.bl _, H, I, rfl, (hP _ q.2.2).bl⟩
  · exact SeqAt.notIn_tuple_reads r2 r1 (SeqAt.canLay_of_shaped q.2.1) (SeqAt.canLay_of_shaped q.1) (room_in_shaped q.1 hu) ⟨.bl _, H, I, rfl, (hP _ q.2.2).bl⟩
  · exact q.elim
theorem op_F (op : Operator) : OpR X (binaryOp op) (R2D X.K (opF op)) := by
  have no : OpR X (binaryOp op) (R2D X.K fun _ _ _ => False) := by
    intro pins s σ H x y v u Q I rx ry h
    obtain ⟨N, O, d, e, dm, hx, hy, P, q, hP⟩ := h
    exact q.elim
  cases op with
  | Add => exact op_dAdd
  | Sub => exact op_dSub
  | Mult => exact op_dMul
  | Mod => exact op_dMod
  | FloorDiv => exact op_dDiv
  | _ => exact no
theorem cmp_F (hu : X.A.units + 65 < cLine) (op : CmpOp) : OpR X (compareOp op) (R2D X.K (cmpF op)) := by
  cases op with
  | Eq => exact op_dEq (by omega)
  | NotEq => exact op_dNe (by omega)
  | Lt => exact op_dLt
  | LtE => exact op_dLe
  | Gt => exact op_dGt
  | GtE => exact op_dGe
  | Is => exact op_dIs
  | IsNot => exact op_dIsnt
  | In => exact op_dIn hu
  | NotIn => exact op_dNotIn hu
def R1D (K : PySem.W.Frag) (f : D → (D → Prop) → Prop) : V → Hp → VK → Prop := fun x H Q => ∃ N O d, Dom O H ∧ BDr K N O H x d ∧ ∃ P, f d P ∧ ∀ r, P r → AnsF K O H Q r
theorem un_dNeg : UnR X (unaryOp .USub) (R1D X.K dNeg) := by
  intro pins s σ H x v Q I rx h
  obtain ⟨N, O, d, dm, hx, P, q, hP⟩ := h
  unfold dNeg at q
  split at q
  · rw [hx.int] at rx
    exact un_neg pins s σ H _ v Q I rx ⟨_, rfl, (hP _ q).int⟩
  · exact q.elim
end
/-- a comparison's answer is a truth value -/
theorem cmpF_bool {op : CmpOp} {x y : D} {P : D → Prop} (h : cmpF op x y P) : cmpF op x y fun r => P r ∧ ∃ b, r = .bool b := by
  cases op with
  | Eq => exact ⟨h.1, h.2.1, h.2.2, _, rfl⟩
  | NotEq => exact ⟨h.1, h.2.1, h.2.2, _, rfl⟩
  | In =>
    have h : dIn false x y P := h
    show dIn false x y _
    cases y with
    | list ds => exact ⟨h.1, h.2.1, h.2.2, _, rfl⟩
    | tuple ds => exact ⟨h.1, h.2.1, h.2.2, _, rfl⟩
    | _ => exact h.elim
  | NotIn =>
    have h : dIn true x y P := h
    show dIn true x y _
    cases y with
    | list ds => exact ⟨h.1, h.2.1, h.2.2, _, rfl⟩
    | tuple ds => exact ⟨h.1, h.2.1, h.2.2, _, rfl⟩
    | _ => exact h.elim
  | _ => cases x <;> cases y <;> first | exact h.elim | exact ⟨h, _, rfl⟩

/-! keys of dicts -/
mutual
def nkOf : D → Option NestedKey
  | .none => some .none
  | .int i => some (.num i)
  | .tuple ds => (nksOf ds).map .tup
  | .bool _ => none
  | .str _ => none
  | .list _ => none
  | .dict _ => none
def nksOf : List D → Option (List NestedKey)
  | [] => some []
  | d :: ds => match nkOf d, nksOf ds with
    | some k, some ks => some (k :: ks)
    | _, _ => none
end
mutual
theorem nkOf_data : ∀ (d : D) (k : NestedKey), nkOf d = some k → k.data = d ∧ plainK k = true
  | .none, k, h => by rw [nkOf] at h; cases h; exact ⟨by rw [NestedKey.data], by rw [plainK]⟩
  | .int i, k, h => by rw [nkOf] at h; cases h; exact ⟨by rw [NestedKey.data], by rw [plainK]⟩
  | .tuple ds, k, h => by
    rw [nkOf, Option.map_eq_some_iff] at h
    obtain ⟨ks, h1, rfl⟩ := h
    obtain ⟨h2, h3⟩ := nksOf_data ds ks h1
    exact ⟨by rw [NestedKey.data, h2], by rw [plainK]; exact h3⟩
  | .bool _, k, h => by rw [nkOf] at h; cases h
  | .str _, k, h => by rw [nkOf] at h; cases h
  | .list _, k, h => by rw [nkOf] at h; cases h
  | .dict _, k, h => by rw [nkOf] at h; cases h
theorem nksOf_data : ∀ (ds : List D) (ks : List NestedKey), nksOf ds = some ks → NestedKey.datas ks = ds ∧ plainKs ks = true
  | [], ks, h => by rw [nksOf] at h; cases h; exact ⟨by rw [NestedKey.datas], by rw [plainKs]⟩
  | d :: ds, ks, h => by
    rw [nksOf] at h
    cases h1 : nkOf d with
    | none => rw [h1] at h; cases h
    | some k =>
      cases h2 : nksOf ds with
      | none => rw [h1, h2] at h; cases h
      | some ks' =>
        rw [h1, h2] at h
        cases h
        obtain ⟨a1, a2⟩ := nkOf_data d k h1
        obtain ⟨b1, b2⟩ := nksOf_data ds ks' h2
        exact ⟨by rw [NestedKey.datas, a1, b1], by rw [plainKs, a2, b2]; rfl⟩
end
/-- a tuple that may be a key -/
def keyT : D → Option NestedKey
  | .tuple ds => match nkOf (.tuple ds) with
    | some k => if k.depth ≤ 8 then some k else none
    | none => none
  | _ => none
theorem keyT_ok {d : D} {k : NestedKey} (h : keyT d = some k) : k.data = d ∧ keyOkK k ∧ ∃ ds, d = .tuple ds := by
  cases d with
  | tuple ds =>
    unfold keyT at h
    simp only at h
    cases h1 : nkOf (.tuple ds) with
    | none => rw [h1] at h; cases h
    | some k' =>
      rw [h1] at h
      simp only at h
      split at h
      · cases h
        obtain ⟨a1, a2⟩ := nkOf_data _ _ h1
        exact ⟨a1, ⟨a2, ‹_›⟩, ds, rfl⟩
      · cases h
  | _ => cases h

/-! ### the grammar -/
inductive Bi where
  | len | tuple | list | sum | any | all | abs | min | max | int | str | gcd | sorted
  deriving DecidableEq
def Bi.nm : Bi → Str
  | .len => "len" | .tuple => "tuple" | .list => "list" | .sum => "sum" | .any => "any" | .all => "all" | .abs => "abs" | .min => "min" | .max => "max" | .int => "int" | .str => "str" | .gcd => "gcd" | .sorted => "sorted"
def Bi.fd : Bi → FD
  | .len => dLen | .tuple => dTuple | .list => dList | .sum => dSum | .any => dAny | .all => dAll | .abs => dAbs | .min => dMin2 | .max => dMax2 | .int => dInt | .str => dStr | .gcd => dGcd | .sorted => dSorted
mutual
inductive Tg where
  | n (i : Nat)
  | t (ts : Tgs)
inductive Tgs where
  | nil
  | cons (t : Tg) (ts : Tgs)
end
mutual
inductive Ex where
  | v (i : Nat) | b (i : Nat)
  | int (i : Int) | bl (b : Bool) | non | str (s : Str)
  | g (x : Str)
  | bin (op : Operator) (a b : Ex)
  | neg (a : Ex)
  | cmp (op : CmpOp) (a b : Ex)
  | chain (op op' : CmpOp) (a b c : Ex)
  | and (a b : Ex) | or (a b : Ex) | not (a : Ex)
  | ite (t a b : Ex)
  | tup (es : Exs) | lst (es : Exs)
  | sub (a i : Ex)
  | cut (a : Ex) (lo hi : Eo)
  | bi (b : Bi) (es : Exs)
  | isi (a : Ex) (T : String)
  | call (f : Str) (es : Exs)
  | comp (own : List (Str × Nat)) (elt : Ex) (tg : Tg) (it : Ir) (ifs : Eo)
  | comp2 (own : List (Str × Nat)) (elt : Ex) (tg : Tg) (it : Ir) (ifs : Eo) (tg1 : Tg) (it1 : Ir) (ifs1 : Eo)
  | setlen (e : Ex)
  | dget (i : Nat) (k d : Ex)
  | dsort (it : Bool) (i : Nat)
  | dead
inductive Exs where
  | nil
  | cons (e : Ex) (es : Exs)
  | dr (i : Nat) (es : Exs)
inductive Eo where
  | no
  | so (e : Ex)
inductive Ir where
  | seq (e : Ex)
  | rng (es : Exs)
  | enum (e : Ex)
  | zip (a b : Ex)
end

/-! ### the meaning, over data -/
abbrev Fns := Str → List Sl → (D → Prop) → (Str → Prop) → Prop
structure Gam where
  Φ : Fns
  gl : List (Str × D)
  fs : List Str
  exs : List Str
def fzs : List Sl → Option (List D)
  | [] => some []
  | .fz d :: r => (fzs r).map (d :: ·)
  | _ => none
/-- a turn after another -/
def foldW (step : D → List D → (List D → Prop) → Prop) : List D → List D → (List D → Prop) → Prop
  | [], acc, Q => Q acc
  | d :: ds, acc, Q => step d acc fun acc' => foldW step ds acc' Q
mutual
def bindT : Tg → D → Rho → (Rho → Prop) → Prop
  | .n i, d, ρ, Q => Q (ρ.set i (some (.fz d)))
  | .t ts, d, ρ, Q => match d with
    | .tuple ds => ds.length = tgsLen ts ∧ bindTs ts ds ρ Q
    | _ => False
def bindTs : Tgs → List D → Rho → (Rho → Prop) → Prop
  | .nil, ds, ρ, Q => ds = [] ∧ Q ρ
  | .cons t ts, ds, ρ, Q => match ds with
    | d :: r => bindT t d ρ fun ρ' => bindTs ts r ρ' Q
    | [] => False
def tgsLen : Tgs → Nat
  | .nil => 0
  | .cons _ ts => tgsLen ts + 1
end
def wipeR (ρ : Rho) : List Nat → Rho
  | [] => ρ
  | v :: vs => (wipeR ρ vs).set v none
def seqOf : D → (List D → Prop) → Prop
  | .list ds, P => P ds
  | .tuple ds, P => P ds
  | _, _ => False
def rngOk (i : Int) : Prop := -(2 ^ 62) ≤ i ∧ i < 2 ^ 62
def rngW : List D → (List D → Prop) → Prop
  | [.int j], P => rngOk j ∧ P (rangeD 0 j.toNat)
  | [.int i, .int j], P => rngOk i ∧ rngOk j ∧ P (rangeD i (j - i).toNat)
  | _, _ => False
def enumW : D → (List D → Prop) → Prop
  | .list ds, P => P (enumD ds)
  | .tuple ds, P => P (enumD ds)
  | _, _ => False
def zipW (x y : D) (P : List D → Prop) : Prop := seqOf x fun ds => seqOf y fun es => P (zipD ds es)
mutual
def slotsT : Tg → List Nat
  | .n i => [i]
  | .t ts => slotsTs ts
def slotsTs : Tgs → List Nat
  | .nil => []
  | .cons t ts => slotsT t ++ slotsTs ts
end
/-- how many different numbers -/
def dstI (ns : List Int) : Int := ((PyProof.Rows.firstMet (fun i => ns.getD i 0) ns.length).length : Nat)
def setlenW : D → (D → Prop) → Prop
  | .list ds, P => optQ (intsOf ds) fun ns => ns.length ≤ 4000 ∧ P (.int (dstI ns))
  | _, _ => False
abbrev nE : Str → Prop := fun _ => False
mutual
def wpE (Γ : Gam) : Ex → Rho → (D → Prop) → (Str → Prop) → Prop
  | .v i, ρ, P, _ => match ρ[i]? with
    | some (some (.fz d)) => P d
    | _ => False
  | .b i, ρ, P, _ => match ρ[i]? with
    | some (some (.fz d)) => P d
    | some (some (.ow d)) => P d
    | _ => False
  | .int i, _, P, _ => P (.int i)
  | .bl b, _, P, _ => P (.bool b)
  | .non, _, P, _ => P .none
  | .str s, _, P, _ => P (.str s)
  | .g x, _, P, _ => optQ (Γ.gl.lookup x) P
  | .bin op a b, ρ, P, E => wpE Γ a ρ (fun x => wpE Γ b ρ (fun y => opF op x y P) E) E
  | .neg a, ρ, P, E => wpE Γ a ρ (fun x => dNeg x P) E
  | .cmp op a b, ρ, P, E => wpE Γ a ρ (fun x => wpE Γ b ρ (fun y => cmpF op x y P) E) E
  | .chain op op' a b c, ρ, P, E => wpE Γ a ρ (fun x => wpE Γ b ρ (fun y => cmpF op x y fun r => match r with
      | .bool true => wpE Γ c ρ (fun z => cmpF op' y z P) E
      | .bool false => P (.bool false)
      | _ => False) E) E
  | .and a b, ρ, P, E => wpE Γ a ρ (fun x => optQ (truD x) fun c => if c = true then wpE Γ b ρ P E else P x) E
  | .or a b, ρ, P, E => wpE Γ a ρ (fun x => optQ (truD x) fun c => if c = true then P x else wpE Γ b ρ P E) E
  | .not a, ρ, P, E => wpE Γ a ρ (fun x => optQ (truD x) fun c => P (.bool (!c))) E
  | .ite t a b, ρ, P, E => wpE Γ t ρ (fun x => optQ (truD x) fun c => if c = true then wpE Γ a ρ P E else wpE Γ b ρ P E) E
  | .tup es, ρ, P, E => wpX Γ es ρ (fun ss => optQ (fzs ss) fun ds => P (.tuple ds)) E
  | .lst es, ρ, P, E => wpX Γ es ρ (fun ss => optQ (fzs ss) fun ds => P (.list ds)) E
  | .sub a i, ρ, P, E => wpE Γ a ρ (fun x => wpE Γ i ρ (fun y => dSub1 x y P) E) E
  | .cut a lo hi, ρ, P, E => wpE Γ a ρ (fun x => wpO Γ lo ρ (fun l => wpO Γ hi ρ (fun h => dCut x l h P) E) E) E
  | .bi b es, ρ, P, E => wpX Γ es ρ (fun ss => optQ (fzs ss) fun ds => b.fd ds P) E
  | .isi a T, ρ, P, E => wpE Γ a ρ (fun x => P (.bool (isiD T x))) E
  | .call f es, ρ, P, E => wpX Γ es ρ (fun ss => Γ.Φ f ss P E) E
  | .comp own elt tg it ifs, ρ, P, E => wpI Γ it ρ (fun ds => ds.length ≤ sizeLine ∧ foldW (fun d acc k => bindT tg d (wipeR ρ (own.map (·.2))) fun ρ1 =>
      wpC Γ ifs ρ1 (fun c => if c = true then wpE Γ elt ρ1 (fun y => k (acc ++ [y])) nE else k acc) nE) ds [] fun acc => P (.list acc)) E
  | .comp2 own elt tg it ifs tg1 it1 ifs1, ρ, P, E => wpI Γ it ρ (fun ds => foldW (fun d acc k => bindT tg d (wipeR ρ (own.map (·.2))) fun ρ1 =>
      wpC Γ ifs ρ1 (fun c => if c = true then wpI Γ it1 ρ1 (fun es => foldW (fun e acc k => bindT tg1 e (wipeR ρ1 (slotsT tg1)) fun ρ2 =>
        wpC Γ ifs1 ρ2 (fun c => if c = true then wpE Γ elt ρ2 (fun y => acc.length < sizeLine ∧ k (acc ++ [y])) nE else k acc) nE) es acc k) nE else k acc) nE) ds [] fun acc => P (.list acc)) E
  | .setlen e, ρ, P, E => wpE Γ e ρ (fun d => setlenW d P) E
  | .dget i k d, ρ, P, E => match ρ[i]? with
    | some (some (.od kvs)) => wpE Γ k ρ (fun x => optQ (keyT x) fun kk => wpE Γ d ρ (fun y => P ((lookV kvs kk).getD y)) E) E
    | _ => False
  | .dsort it i, ρ, P, _ => match ρ[i]? with
    | some (some (.od kvs)) => sortOk (viewD it kvs) ∧ P (.list (sortD (viewD it kvs)))
    | _ => False
  | .dead, _, _, _ => False
def wpX (Γ : Gam) : Exs → Rho → (List Sl → Prop) → (Str → Prop) → Prop
  | .nil, _, P, _ => P []
  | .cons e es, ρ, P, E => wpE Γ e ρ (fun d => wpX Γ es ρ (fun ss => P (.fz d :: ss)) E) E
  | .dr i es, ρ, P, E => match ρ[i]? with
    | some (some .dr) => wpX Γ es ρ (fun ss => P (.dr :: ss)) E
    | _ => False
def wpO (Γ : Gam) : Eo → Rho → (Option Int → Prop) → (Str → Prop) → Prop
  | .no, _, P, _ => P none
  | .so e, ρ, P, E => wpE Γ e ρ (fun d => match d with
    | .int i => P (some i)
    | _ => False) E
def wpC (Γ : Gam) : Eo → Rho → (Bool → Prop) → (Str → Prop) → Prop
  | .no, _, P, _ => P true
  | .so e, ρ, P, E => wpE Γ e ρ (fun d => optQ (truD d) P) E
def wpI (Γ : Gam) : Ir → Rho → (List D → Prop) → (Str → Prop) → Prop
  | .seq e, ρ, P, E => wpE Γ e ρ (fun d => seqOf d P) E
  | .rng es, ρ, P, E => wpX Γ es ρ (fun ss => optQ (fzs ss) fun ds => rngW ds P) E
  | .enum e, ρ, P, E => wpE Γ e ρ (fun d => enumW d P) E
  | .zip a b, ρ, P, E => wpE Γ a ρ (fun x => wpE Γ b ρ (fun y => zipW x y P) E) E
end
end DL

set_option Elab.async false
set_option linter.all false
set_option maxRecDepth 100000
set_option maxHeartbeats 4000000
namespace DL
open PySem PySem.Spec PyProof.Rows L2

/-! ### a def's promise over data; what holds of the program -/
def spF (K : PySem.W.Frag) (ec : Str → Value) (φ : List Sl → (D → Prop) → (Str → Prop) → Prop) : Sp := fun vs H Q E =>
  ∃ (O : Addr → Prop) (dA : Option Addr) (dC : Addr) (as : List Sl) (P : D → Prop) (PE : Str → Prop), Dom O H ∧ (∀ a, dA = some a → O a ∧ DrawOk K O H a dC) ∧ Paired (SlotR K ⟨O, dA, dC, H⟩ O H) vs as ∧ φ as P PE ∧
    (∀ d, P d → ∀ v H', Stp K ⟨O, dA, dC, H⟩ O H H' → Dr K O H' v d → Q v H') ∧ ∀ x, PE x → ∀ H', Stp K ⟨O, dA, dC, H⟩ O H H' → E (ec x) none H'
structure Glb where
  P : Program
  w : World
  K : PySem.W.Frag
  mg : Str → Option Value
  base : Heap
  k : Nat
  Γ : Gam
  ec : Str → Value
structure FnIn (G : Glb) (f : Str) (φ : List Sl → (D → Prop) → (Str → Prop) → Prop) : Prop where
  ex : ∃ (a : Addr) (fd : FuncData) (ps : List Str), G.mg f = some (.ref a) ∧ PySem.W.keepIn G.K (.ref a) = true ∧ Binds G.K fd ps [] ∧ FnOk G.P G.w G.K G.mg G.base (L2.CX G.P G.w) G.k a fd ps (spF G.K G.ec φ)
structure GOk (G : Glb) : Prop where
  fn : ∀ f ∈ G.Γ.fs, FnIn G f (G.Γ.Φ f)
  bi : ∀ b : Bi, b ≠ .gcd → G.mg b.nm = none
  gcd : G.mg "gcd" = some (.builtin "math.gcd")
  rng : G.mg "range" = none
  enm : G.mg "enumerate" = none
  zip : G.mg "zip" = none
  isi : G.mg "isinstance" = none
  bool : G.mg "bool" = none
  set : G.mg "set" = none
  gl : ∀ (x : Str) (d : D), G.Γ.gl.lookup x = some d → ∃ u v, G.mg x = some u ∧ RelV v u ∧ Dr G.K (fun _ => False) (fun _ => none) v d
/-- the program's own exceptions (no __init__ of their own) -/
structure ExIn (G : Glb) (x : Str) (C : Addr) : Prop where
  mg : G.mg x = some (.ref C)
  ec : G.ec x = .ref C
  ex : PySem.W.excIn G.K C [.type "ValueError", .type "Exception", .type "BaseException", .type "object"] "ValueError.__new__" = true
  kp : PySem.W.keepIn G.K (.ref C) = true
  sub : PySem.W.subIn G.K (.ref C) (.type "BaseException") = some true
  ty : PySem.W.typeIn G.K (.ref C) = some (.type "type")
structure EOk (G : Glb) : Prop where
  ex : ∀ x ∈ G.Γ.exs, ∃ C, ExIn G x C
  one : ∀ x ∈ G.Γ.exs, ∀ y ∈ G.Γ.exs, PySem.W.exmOne G.K (G.ec x) (G.ec y) = some (decide (x = y))
structure XOk (G : Glb) (X : Cx) : Prop where
  prog : X.prog = G.P
  w : X.w = G.w
  K : X.K = G.K
  mg : X.mg = G.mg
  base : X.base = G.base
  calm : X.calm = true
  room : Room G.k X.A
  nd : X.N.Nodup
theorem XOk.hu {G : Glb} {X : Cx} (o : XOk G X) : X.A.units + 66 < cLine := by
  have := o.room.un
  omega

/-! ### what the grammar must be: checked by computing -/
structure Sx where
  N : List Str
  sc : Scope
  fn : Str → Bool
def visB (sc : Scope) (x : Str) : Bool := match sc.names.lookup x with
  | some .local => true
  | some .cell => true
  | some .free => true
  | _ => false
def glB (sc : Scope) (x : Str) : Bool := match sc.names.lookup x with
  | some .globalImplicit => !(x == ("__debug__" : Str))
  | _ => false
def locB (S : Sx) (x : Str) : Bool := match S.sc.names.lookup x with
  | some .local => true
  | some .cell => S.fn x
  | _ => false
def nmB (x : Str) : Bool := !(x == ("__debug__" : Str)) && !(x == ("__classdict__" : Str))
mutual
def mtT (S : Sx) : Tg → Expr → Bool
  | .n i, .Name x _ => decide (S.N[i]? = some x) && locB S x
  | .t ts, .Tuple es _ _ => mtTs S ts es
  | _, _ => false
def mtTs (S : Sx) : Tgs → List Expr → Bool
  | .nil, [] => true
  | .cons t ts, e :: es => mtT S t e && mtTs S ts es
  | _, _ => false
end
def isTup : Tg → Bool
  | .t _ => true
  | _ => false
/-- the value may be kept -/
def nb : Ex → Bool
  | .b _ => false
  | .ite _ a b => nb a && nb b
  | .and a b => nb a && nb b
  | .or a b => nb a && nb b
  | _ => true
def nbX : Exs → Bool
  | .nil => true
  | .cons e es => nb e && nbX es
  | .dr _ es => nbX es
def nodr : Exs → Bool
  | .nil => true
  | .cons _ es => nodr es
  | .dr _ _ => false
def lenX : Exs → Nat
  | .nil => 0
  | .cons _ es => lenX es + 1
  | .dr _ es => lenX es + 1
/-- a list that comes is new -/
def frs : Ex → Bool
  | .bin _ _ _ => true
  | .lst _ => true
  | .cut _ _ _ => true
  | .bi _ _ => true
  | .comp _ _ _ _ _ => true
  | .comp2 _ _ _ _ _ _ _ _ => true
  | .dsort _ _ => true
  | _ => false
def nbI : Ir → Bool
  | .seq e => nb e
  | .rng _ => true
  | .enum e => nb e
  | .zip a b => nb a && nb b
def isCmp : Expr → Bool
  | .ListComp .. => true
  | .SetComp .. => true
  | .DictComp .. => true
  | _ => false
/-- a test by its value's truth -/
def plainT : Expr → Bool
  | .UnaryOp .Not _ _ => false
  | .BoolOp .. => false
  | .IfExp .. => false
  | .Compare .. => false
  | _ => true
def inFs (Γ : Gam) (f : Str) : Bool := Γ.fs.any fun g => decide (g = f)
def blkS (S : Sx) (scope : Scope) : Sx := ⟨S.N, relS scope S.sc, fun x => scope.names.lookup x == some .cell⟩
mutual
/-- no conditional expression where a test stands -/
def tstB : Expr → Bool
  | .IfExp .. => false
  | .UnaryOp .Not e _ => tstB e
  | .BoolOp _ es _ => tstsB es
  | _ => true
def tstsB : List Expr → Bool
  | [] => true
  | e :: es => tstB e && tstsB es
end
mutual
def mtE (Γ : Gam) (S : Sx) : Ex → Expr → Bool
  | .v i, .Name x _ => decide (S.N[i]? = some x) && visB S.sc x && nmB x
  | .b i, .Name x _ => decide (S.N[i]? = some x) && visB S.sc x && nmB x
  | .int i, .Constant (.int j) _ _ => decide (i = j)
  | .bl b, .Constant (.bool c) _ _ => b == c
  | .non, .Constant .none _ _ => true
  | .str s, .Constant (.str t) _ _ => decide (s = t)
  | .g y, .Name x _ => decide (x = y) && (Γ.gl.lookup x).isSome && glB S.sc x
  | .bin op a b, .BinOp ea op' eb _ => decide (op = op') && mtE Γ S a ea && mtE Γ S b eb
  | .neg a, .UnaryOp .USub ea _ => mtE Γ S a ea
  | .cmp op a b, .Compare ea [op'] [eb] _ => decide (op = op') && mtE Γ S a ea && mtE Γ S b eb
  | .chain op op2 a b c, .Compare ea [op', op2'] [eb, ec] _ => decide (op = op') && decide (op2 = op2') && mtE Γ S a ea && mtE Γ S b eb && mtE Γ S c ec
  | .and a b, .BoolOp .And (ea :: eb :: r) pos => mtE Γ S a ea && (match r with
    | [] => mtE Γ S b eb
    | c :: r' => mtE Γ S b (.BoolOp .And (eb :: c :: r') pos))
  | .or a b, .BoolOp .Or (ea :: eb :: r) pos => mtE Γ S a ea && (match r with
    | [] => mtE Γ S b eb
    | c :: r' => mtE Γ S b (.BoolOp .Or (eb :: c :: r') pos))
  | .not a, .UnaryOp .Not ea _ => mtE Γ S a ea
  | .ite t a b, .IfExp et ea eb _ => mtE Γ S t et && tstB et && mtE Γ S a ea && mtE Γ S b eb
  | .tup es, .Tuple as _ _ => mtX Γ S es as && nbX es && nodr es && decide (lenX es ≤ 1000)
  | .lst es, .List as _ => mtX Γ S es as && nbX es && nodr es && decide (lenX es ≤ 1000)
  | .sub a i, .Subscript ea ei _ => mtE Γ S a ea && mtE Γ S i ei
  | .cut a lo hi, .Subscript ea (.Slice l h none _) _ => mtE Γ S a ea && mtO Γ S lo l && mtO Γ S hi h
  | .bi b es, .Call (.Name x _) as [] _ => decide (x = b.nm) && glB S.sc x && mtX Γ S es as && nodr es && decide (0 < lenX es)
  | .isi a T, .Call (.Name x _) [ea, .Name y _] [] _ => decide (x = ("isinstance" : Str)) && glB S.sc x && mtE Γ S a ea && glB S.sc y &&
      ((decide (y = ("int" : Str)) && T == "int") || (decide (y = ("bool" : Str)) && T == "bool") || (decide (y = ("str" : Str)) && T == "str") || (decide (y = ("tuple" : Str)) && T == "tuple") || (decide (y = ("list" : Str)) && T == "list"))
  | .call f es, .Call (.Name x _) as [] _ => decide (x = f) && inFs Γ f && glB S.sc x && mtX Γ S es as && nbX es && decide (0 < lenX es)
  | .comp own elt tg it ifs, .ListComp x [⟨t, i, cs, n⟩] scope _ => decide (n = 0) && blkC S.N S.sc scope own && ((slotsT tg).all fun j => (own.map (·.2)).contains j) && mtT (blkS S scope) tg t && mtI Γ S (isTup tg) it i && mtE Γ (blkS S scope) elt x && nb elt && mtC Γ (blkS S scope) ifs cs
  | .comp2 own elt tg it ifs tg1 it1 ifs1, .ListComp x [⟨t, i, cs, n⟩, ⟨t1, i1, cs1, n1⟩] scope _ => decide (n = 0) && decide (n1 = 0) && blkC S.N S.sc scope own && ((slotsT tg).all fun j => (own.map (·.2)).contains j) && ((slotsT tg1).all fun j => (own.map (·.2)).contains j) && mtT (blkS S scope) tg t && mtI Γ S (isTup tg) it i && mtC Γ (blkS S scope) ifs cs &&
      mtT (blkS S scope) tg1 t1 && mtI Γ (blkS S scope) (isTup tg1) it1 i1 && nbI it1 && mtC Γ (blkS S scope) ifs1 cs1 && mtE Γ (blkS S scope) elt x && nb elt
  | .setlen a, .Call (.Name x _) [.Call (.Name y _) [ea] [] _] [] _ => decide (x = ("len" : Str)) && decide (y = ("set" : Str)) && glB S.sc x && glB S.sc y && mtE Γ S a ea
  | .dget i k d, .Call (.Attribute (.Name x _) m ap) [ek, ed] [] cp => decide (m = ("get" : Str)) && decide (S.N[i]? = some x) && visB S.sc x && nmB x && mtE Γ S k ek && mtE Γ S d ed && nb k && nb d && ap.endLine == cp.line
  | .dsort it i, .Call (.Name f _) [.Call (.Attribute (.Name x _) m ap) [] [] cp] [] _ => decide (f = ("sorted" : Str)) && glB S.sc f && decide (m = (if it then ("items" : Str) else ("values" : Str))) && decide (S.N[i]? = some x) && visB S.sc x && nmB x && ap.endLine == cp.line
  | .dead, .Call _ _ _ _ => true
  | _, _ => false
def mtX (Γ : Gam) (S : Sx) : Exs → List Expr → Bool
  | .nil, [] => true
  | .cons a es, e :: as => mtE Γ S a e && mtX Γ S es as
  | .dr i es, e :: as => (match e with
    | .Name x _ => decide (S.N[i]? = some x) && visB S.sc x && nmB x
    | _ => false) && mtX Γ S es as
  | _, _ => false
def mtO (Γ : Gam) (S : Sx) : Eo → Option Expr → Bool
  | .no, none => true
  | .so a, some e => mtE Γ S a e
  | _, _ => false
def mtC (Γ : Gam) (S : Sx) : Eo → List Expr → Bool
  | .no, [] => true
  | .so a, [e] => mtE Γ S a e && tstB e
  | _, _ => false
def mtI (Γ : Gam) (S : Sx) (tup : Bool) : Ir → Expr → Bool
  | .seq a, e => mtE Γ S a e
  | .rng es, .Call (.Name x _) as [] _ => decide (x = ("range" : Str)) && glB S.sc x && mtX Γ S es as && nodr es && (lenX es == 1 || lenX es == 2)
  | .enum a, .Call (.Name x _) [e] [] _ => decide (x = ("enumerate" : Str)) && glB S.sc x && mtE Γ S a e && tup
  | .zip a b, .Call (.Name x _) [e, e'] [] _ => decide (x = ("zip" : Str)) && glB S.sc x && mtE Γ S a e && mtE Γ S b e' && tup
  | _, _ => false
end
end DL

set_option Elab.async false
set_option linter.all false
set_option maxRecDepth 100000
set_option maxHeartbeats 4000000
namespace DL
open PySem PySem.Spec PyProof.Rows L2

/-! ### readings -/
structure ResR (K : PySem.W.Frag) (F : Fm) (O : Addr → Prop) (H H' : Hp) (a : Ex) (v : V) (d : D) : Prop where
  b : BDr K F.O0 O H' v d
  n : nb a = true → Dr K O H' v d
  f : frs a = true → Fr1 K O H H' v d
def ArgR (K : PySem.W.Frag) (F : Fm) (O : Addr → Prop) (H : Hp) (n : Bool) (v : V) : Sl → Prop
  | .fz d => BDr K F.O0 O H v d ∧ (n = true → Dr K O H v d)
  | .dr => ∃ a, F.dA = some a ∧ v = .ref a
  | .ow _ => False
  | .od _ => False
section
variable (K : PySem.W.Frag) (Γ : Gam) (ec : Str → Value) (W : WX)
def Er1 (F : Fm) (O : Addr → Prop) (H : Hp) (σ : L2.St) (E : Str → Prop) : Prop := ∀ x, E x → ∀ H', Stp K F O H H' → W (ec x) none σ H'
def tE (a : Ex) : TE := fun σ H Q => ∃ F O ρ P E, EnvR K F O H σ ρ ∧ wpE Γ a ρ P E ∧ (∀ d, P d → ∀ v H', Stp K F O H H' → ResR K F O H H' a v d → Q v H') ∧ Er1 K ec W F O H σ E
def tT (a : Ex) : TT := fun σ H Q => ∃ F O ρ P E, EnvR K F O H σ ρ ∧ wpE Γ a ρ P E ∧ (∀ d, P d → ∃ c, truD d = some c ∧ ∀ H', Stp K F O H H' → Q c H') ∧ Er1 K ec W F O H σ E
def tX (es : Exs) : TA := fun σ H Q => ∃ F O ρ P E, EnvR K F O H σ ρ ∧ wpX Γ es ρ P E ∧ (∀ ss, P ss → ∀ vs H', Stp K F O H H' → Paired (ArgR K F O H' (nbX es)) vs ss → vs.length = lenX es → Q vs H') ∧ Er1 K ec W F O H σ E
def tO (a : Eo) : TO := fun σ H Q => ∃ F O ρ P E, EnvR K F O H σ ρ ∧ wpO Γ a ρ P E ∧ (∀ l, P l → ∀ H', Stp K F O H H' → Q l H') ∧ Er1 K ec W F O H σ E
def tC (a : Eo) : TT := fun σ H Q => ∃ F O ρ P E, EnvR K F O H σ ρ ∧ wpC Γ a ρ P E ∧ (∀ c, P c → ∀ H', Stp K F O H H' → Q c H') ∧ Er1 K ec W F O H σ E
end
section
variable {K : PySem.W.Frag} {Γ : Gam} {ec : Str → Value} {W : WX} {F : Fm} {O : Addr → Prop} {H H' H1 : Hp} {σ : L2.St} {ρ : Rho} {E : Str → Prop}
theorem Er1.next (h : Er1 K ec W F O H σ E) (s : Stp K F O H H1) : Er1 K ec W F O H1 σ E := fun x e H' s' => h x e H' (s.trans s')
theorem Fr1.back {v : V} {d : D} (e : EnvR K F O H σ ρ) (s : Stp K F O H H1) (h : Fr1 K O H1 H' v d) : Fr1 K O H H' v d := fun ds q => by
  obtain ⟨p, xs, h1, h2, h3, h4⟩ := h ds q
  exact ⟨p, xs, h1, s.free e h2, h3, h4⟩
/-- a value-level step at the end of an expression -/
theorem ansF_of {a : Ex} {P : D → Prop} {Q : VK} (e : EnvR K F O H σ ρ) (s : Stp K F O H H1) (hP : ∀ d, P d → ∀ v H', Stp K F O H H' → ResR K F O H H' a v d → Q v H') : ∀ r, P r → AnsF K O H1 Q r :=
  fun r hr v H2 sm dr fr => hP r hr v H2 (s.trans (Stp.same (e.stp s) sm)) ⟨.inl dr, fun _ => dr, fun _ => fr.back e s⟩
theorem ans_of {a : Ex} {P : D → Prop} {Q : VK} (e : EnvR K F O H σ ρ) (s : Stp K F O H H1) (hf : frs a = false) (hP : ∀ d, P d → ∀ v H', Stp K F O H H' → ResR K F O H H' a v d → Q v H') : ∀ r, P r → Ans K O H1 Q r :=
  fun r hr v H2 sm dr => hP r hr v H2 (s.trans (Stp.same (e.stp s) sm)) ⟨.inl dr, fun _ => dr, fun h => by rw [hf] at h; cases h⟩
theorem res_dr {a : Ex} {v : V} {d : D} (h : Dr K O H v d) (hf : frs a = false ∨ ∀ ds, d ≠ .list ds) : ResR K F O H' H a v d :=
  ⟨.inl h, fun _ => h, fun q => by
    rcases hf with hf | hf
    · rw [hf] at q; cases q
    · exact .no hf⟩
theorem args_stp {n : Bool} {vs : List V} {ss : List Sl} (e : EnvR K F O H σ ρ) (s : Stp K F O H H1) (h : Paired (ArgR K F O H n) vs ss) : Paired (ArgR K F O H1 n) vs ss := by
  induction h with
  | nil => exact .nil
  | @cons v sl vs ss h1 _ ih =>
    refine .cons ?_ ih
    cases sl with
    | fz d => exact ⟨h1.1.stp e s, fun q => (h1.2 q).stp e s⟩
    | dr => exact h1
    | ow d => exact h1
    | od d => exact h1
theorem args_bdr {n : Bool} {vs : List V} {ss : List Sl} {ds : List D} (h : Paired (ArgR K F O H n) vs ss) : fzs ss = some ds → BDrA K F.O0 O H vs ds := by
  induction h generalizing ds with
  | nil => intro e; simp [fzs] at e; subst e; exact .nil
  | @cons v sl vs ss h1 _ ih =>
    intro e
    cases sl with
    | fz d =>
      simp only [fzs, Option.map_eq_some_iff] at e
      obtain ⟨r, e1, rfl⟩ := e
      exact .cons h1.1 (ih e1)
    | _ => simp [fzs] at e
theorem args_dr {vs : List V} {ss : List Sl} {ds : List D} (h : Paired (ArgR K F O H true) vs ss) : fzs ss = some ds → DrA K O H vs ds := by
  induction h generalizing ds with
  | nil => intro e; simp [fzs] at e; subst e; exact .nil
  | @cons v sl vs ss h1 _ ih =>
    intro e
    cases sl with
    | fz d =>
      simp only [fzs, Option.map_eq_some_iff] at e
      obtain ⟨r, e1, rfl⟩ := e
      exact .cons (h1.2 rfl) (ih e1)
    | _ => simp [fzs] at e
theorem Paired.len {α β : Type} {R : α → β → Prop} {xs : List α} {ys : List β} (h : Paired R xs ys) : xs.length = ys.length := by
  induction h with
  | nil => rfl
  | cons _ _ ih => exact congrArg (· + 1) ih
theorem fzs_len : ∀ {ss : List Sl} {ds : List D}, fzs ss = some ds → ss.length = ds.length
  | [], ds, e => by simp [fzs] at e; subst e; rfl
  | s :: ss, ds, e => by
    cases s with
    | fz d =>
      simp only [fzs, Option.map_eq_some_iff] at e
      obtain ⟨r, e1, rfl⟩ := e
      exact congrArg (· + 1) (fzs_len e1)
    | _ => simp [fzs] at e
end

section
variable {X : Cx} {Γ : Gam} {ec : Str → Value} {W : WX} {a b c t : Ex} {ea eb ec' et : Expr} {pos : Pos}
theorem PE.conseq {e : Expr} {t t' : TE} (h : PE X e t) (i : ∀ σ H Q, t' σ H Q → t σ H Q) : PE X e t' := ⟨fun pins s σ H Q I w => h.run pins s σ H Q I (i σ H Q w)⟩
theorem PT.conseq {e : Expr} {t t' : TT} (h : PT X e t) (i : ∀ σ H Q, t' σ H Q → t σ H Q) : PT X e t' := ⟨fun pins s σ H Q I w => h.run pins s σ H Q I (i σ H Q w)⟩
theorem PW.conseq {e : Expr} {t t' : TT} (h : PW X e t) (i : ∀ σ H Q, t' σ H Q → t σ H Q) : PW X e t' := ⟨fun wh pins s σ H Q I w => h.run wh pins s σ H Q I (i σ H Q w)⟩
theorem PA.conseq {e : List Expr} {t t' : TA} (h : PA X e t) (i : ∀ σ H Q, t' σ H Q → t σ H Q) : PA X e t' := ⟨fun p pins s σ H Q I w => h.run p pins s σ H Q I (i σ H Q w)⟩

abbrev SE (X : Cx) (Γ : Gam) (ec : Str → Value) (W : WX) (a : Ex) (e : Expr) : Prop := PE X e (tE X.K Γ ec W a)
abbrev SA (X : Cx) (Γ : Gam) (ec : Str → Value) (W : WX) (a : Exs) (e : List Expr) : Prop := PA X e (tX X.K Γ ec W a)

/-! names and constants -/
theorem snd_v {i : Nat} {x : Str} (hN : X.N[i]? = some x) (hv : Vis X.env.scope x) (hd : (x == ("__debug__" : Str)) = false) (hcd : (x == ("__classdict__" : Str)) = false) : SE X Γ ec W (.v i) (.Name x pos) := by
  refine PE.conseq (pe_var hN hv hd hcd) fun σ H Q h => ?_
  obtain ⟨F, O, ρ, P, E, e, w, hP, hE⟩ := h
  unfold wpE at w
  split at w
  · rename_i d hi
    obtain ⟨v, h1, h2⟩ := e.fz hi
    exact ⟨v, h1, hP _ w v H (Stp.refl e) (res_dr h2 (.inl rfl))⟩
  · exact w.elim
theorem snd_b {i : Nat} {x : Str} (hN : X.N[i]? = some x) (hv : Vis X.env.scope x) (hd : (x == ("__debug__" : Str)) = false) (hcd : (x == ("__classdict__" : Str)) = false) : SE X Γ ec W (.b i) (.Name x pos) := by
  refine PE.conseq (pe_var hN hv hd hcd) fun σ H Q h => ?_
  obtain ⟨F, O, ρ, P, E, e, w, hP, hE⟩ := h
  unfold wpE at w
  split at w
  · rename_i d hi
    obtain ⟨v, h1, h2⟩ := e.fz hi
    exact ⟨v, h1, hP _ w v H (Stp.refl e) (res_dr h2 (.inl rfl))⟩
  · rename_i d hi
    obtain ⟨v, h1, h2⟩ := e.owB hi
    exact ⟨v, h1, hP _ w v H (Stp.refl e) ⟨h2, fun q => by simp [nb] at q, fun q => by simp [frs] at q⟩⟩
  · exact w.elim
theorem snd_int {i : Int} {j : Nat} : SE X Γ ec W (.int i) (.Constant (.int i) j pos) := PE.conseq pe_int fun σ H Q h => by
  obtain ⟨F, O, ρ, P, E, e, w, hP, hE⟩ := h
  exact hP _ w _ H (Stp.refl e) (res_dr (.int i) (.inl rfl))
theorem snd_bl {i : Bool} {j : Nat} : SE X Γ ec W (.bl i) (.Constant (.bool i) j pos) := PE.conseq pe_bl fun σ H Q h => by
  obtain ⟨F, O, ρ, P, E, e, w, hP, hE⟩ := h
  exact hP _ w _ H (Stp.refl e) (res_dr (.bl i) (.inl rfl))
theorem snd_non {j : Nat} : SE X Γ ec W .non (.Constant .none j pos) := PE.conseq pe_non fun σ H Q h => by
  obtain ⟨F, O, ρ, P, E, e, w, hP, hE⟩ := h
  exact hP _ w _ H (Stp.refl e) (res_dr .non (.inl rfl))
theorem snd_str {i : Str} {j : Nat} : SE X Γ ec W (.str i) (.Constant (.str i) j pos) := PE.conseq pe_str fun σ H Q h => by
  obtain ⟨F, O, ρ, P, E, e, w, hP, hE⟩ := h
  exact hP _ w _ H (Stp.refl e) (res_dr (.str i) (.inl rfl))
theorem snd_g {x : Str} {d : D} {u : Value} {v : V} (hk : Γ.gl.lookup x = some d) (hg : Gl X x) (hm : X.mg x = some u) (r : RelV v u) (hd : Dr X.K (fun _ => False) (fun _ => none) v d) (hdb : (x == ("__debug__" : Str)) = false) : SE X Γ ec W (.g x) (.Name x pos) :=
  PE.conseq (pe_glob hg hm r hdb) fun σ H Q h => by
    obtain ⟨F, O, ρ, P, E, e, w, hP, hE⟩ := h
    unfold wpE at w
    rw [hk] at w
    have w : P d := w
    exact hP _ w _ H (Stp.refl e) (res_dr (Dr.stay (fun _ _ q => by cases q) (fun _ _ _ q => by cases q) d v hd) (.inl rfl))
/-! operators -/
theorem snd_bin {op : Operator} (ha : SE X Γ ec W a ea) (hb : SE X Γ ec W b eb) : SE X Γ ec W (.bin op a b) (.BinOp ea op eb pos) := by
  refine PE.conseq (pe_op (op_F op) ha hb) fun σ H Q h => ?_
  obtain ⟨F, O, ρ, P, E, e, w, hP, hE⟩ := h
  unfold wpE at w
  refine ⟨F, O, ρ, _, E, e, w, fun x hx v H1 s1 r1 => ?_, hE⟩
  refine ⟨F, O, ρ, _, E, e.stp s1, hx, fun y hy u H2 s2 r2 => ?_, hE.next s1⟩
  exact ⟨F.O0, O, x, y, ((e.stp s1).stp s2).dom, r1.b.stp (e.stp s1) s2, r2.b, P, hy, ansF_of e (s1.trans s2) hP⟩
theorem snd_neg (ha : SE X Γ ec W a ea) : SE X Γ ec W (.neg a) (.UnaryOp .USub ea pos) := by
  refine PE.conseq (pe_un un_dNeg ha) fun σ H Q h => ?_
  obtain ⟨F, O, ρ, P, E, e, w, hP, hE⟩ := h
  unfold wpE at w
  refine ⟨F, O, ρ, _, E, e, w, fun x hx v H1 s1 r1 => ?_, hE⟩
  exact ⟨F.O0, O, x, (e.stp s1).dom, r1.b, P, hx, ansF_of e s1 hP⟩
theorem tE_cmp {op : CmpOp} {σ : L2.St} {H : Hp} {Q : VK} (h : tE X.K Γ ec W (.cmp op a b) σ H Q) : tOp (R2D X.K (cmpF op)) (tE X.K Γ ec W a) (tE X.K Γ ec W b) σ H Q := by
  obtain ⟨F, O, ρ, P, E, e, w, hP, hE⟩ := h
  unfold wpE at w
  refine ⟨F, O, ρ, _, E, e, w, fun x hx v H1 s1 r1 => ?_, hE⟩
  refine ⟨F, O, ρ, _, E, e.stp s1, hx, fun y hy u H2 s2 r2 => ?_, hE.next s1⟩
  exact ⟨F.O0, O, x, y, ((e.stp s1).stp s2).dom, r1.b.stp (e.stp s1) s2, r2.b, P, hy, ansF_of e (s1.trans s2) hP⟩
/-- a test whose value is a truth value -/
theorem tT_cmp {op : CmpOp} {σ : L2.St} {H : Hp} {Q : Bool → Hp → Prop} (h : tT X.K Γ ec W (.cmp op a b) σ H Q) : tTest (tOp (R2D X.K (cmpF op)) (tE X.K Γ ec W a) (tE X.K Γ ec W b)) σ H Q := by
  obtain ⟨F, O, ρ, P, E, e, w, hP, hE⟩ := h
  unfold wpE at w
  refine ⟨F, O, ρ, _, E, e, w, fun x hx v H1 s1 r1 => ?_, hE⟩
  refine ⟨F, O, ρ, _, E, e.stp s1, hx, fun y hy u H2 s2 r2 => ?_, hE.next s1⟩
  refine ⟨F.O0, O, x, y, ((e.stp s1).stp s2).dom, r1.b.stp (e.stp s1) s2, r2.b, _, cmpF_bool hy, fun r hr w H3 sm dr fr => ?_⟩
  obtain ⟨hr, k, rfl⟩ := hr
  obtain ⟨c, hc, q⟩ := hP _ hr
  cases hc
  cases dr
  exact ⟨_, rfl, q H3 ((s1.trans s2).trans (Stp.same ((e.stp s1).stp s2) sm))⟩
theorem snd_cmp {op : CmpOp} (hu : X.A.units + 66 < cLine) (ha : SE X Γ ec W a ea) (hb : SE X Γ ec W b eb) (hm : behindInMarks op eb = false) : SE X Γ ec W (.cmp op a b) (.Compare ea [op] [eb] pos) :=
  PE.conseq (pe_cmpR (cmp_F (by omega) op) ha hb hm) fun σ H Q h => tE_cmp h
theorem snt_cmp {op : CmpOp} (hu : X.A.units + 66 < cLine) (ha : SE X Γ ec W a ea) (hb : SE X Γ ec W b eb) (hm : behindInMarks op eb = false) : PT X (.Compare ea [op] [eb] pos) (tT X.K Γ ec W (.cmp op a b)) :=
  PT.conseq (pt_cmpR (cmp_F (by omega) op) ha hb hm) fun σ H Q h => tT_cmp h
/-! and, or, not, if -/
theorem snd_and {r : List Expr} (ha : SE X Γ ec W a ea) (hb : SE X Γ ec W b (.BoolOp .And (eb :: r) pos)) : SE X Γ ec W (.and a b) (.BoolOp .And (ea :: eb :: r) pos) := by
  refine PE.conseq (pe_andT ha hb) fun σ H Q h => ?_
  obtain ⟨F, O, ρ, P, E, e, w, hP, hE⟩ := h
  unfold wpE at w
  refine ⟨F, O, ρ, _, E, e, w, fun x hx v H1 s1 r1 => ?_, hE⟩
  obtain ⟨c, hc, q⟩ := optQ_iff hx
  refine ⟨c, tru_d r1.b hc, ?_⟩
  cases c with
  | true =>
    rw [if_pos rfl] at q ⊢
    refine ⟨F, O, ρ, P, E, e.stp s1, q, fun d hd u H2 s2 r2 => ?_, hE.next s1⟩
    exact hP d hd u H2 (s1.trans s2) ⟨r2.b, fun n => r2.n (by simp only [nb, Bool.and_eq_true] at n; exact n.2), fun n => (nomatch n)⟩
  | false =>
    rw [if_neg Bool.false_ne_true] at q ⊢
    exact hP x q v H1 s1 ⟨r1.b, fun n => r1.n (by simp only [nb, Bool.and_eq_true] at n; exact n.1), fun n => (nomatch n)⟩
theorem snd_or {r : List Expr} (ha : SE X Γ ec W a ea) (hb : SE X Γ ec W b (.BoolOp .Or (eb :: r) pos)) : SE X Γ ec W (.or a b) (.BoolOp .Or (ea :: eb :: r) pos) := by
  refine PE.conseq (pe_orT ha hb) fun σ H Q h => ?_
  obtain ⟨F, O, ρ, P, E, e, w, hP, hE⟩ := h
  unfold wpE at w
  refine ⟨F, O, ρ, _, E, e, w, fun x hx v H1 s1 r1 => ?_, hE⟩
  obtain ⟨c, hc, q⟩ := optQ_iff hx
  refine ⟨c, tru_d r1.b hc, ?_⟩
  cases c with
  | false =>
    rw [if_neg Bool.false_ne_true] at q ⊢
    refine ⟨F, O, ρ, P, E, e.stp s1, q, fun d hd u H2 s2 r2 => ?_, hE.next s1⟩
    exact hP d hd u H2 (s1.trans s2) ⟨r2.b, fun n => r2.n (by simp only [nb, Bool.and_eq_true] at n; exact n.2), fun n => (nomatch n)⟩
  | true =>
    rw [if_pos rfl] at q ⊢
    exact hP x q v H1 s1 ⟨r1.b, fun n => r1.n (by simp only [nb, Bool.and_eq_true] at n; exact n.1), fun n => (nomatch n)⟩
theorem snd_one {op : BoolOp} (ha : SE X Γ ec W a ea) : SE X Γ ec W a (.BoolOp op [ea] pos) := pe_one ha
theorem snd_not (ha : SE X Γ ec W a ea) : SE X Γ ec W (.not a) (.UnaryOp .Not ea pos) := by
  refine PE.conseq (pe_notT ha) fun σ H Q h => ?_
  obtain ⟨F, O, ρ, P, E, e, w, hP, hE⟩ := h
  unfold wpE at w
  refine ⟨F, O, ρ, _, E, e, w, fun x hx v H1 s1 r1 => ?_, hE⟩
  obtain ⟨c, hc, q⟩ := optQ_iff hx
  exact ⟨c, tru_d r1.b hc, hP _ q _ H1 s1 (res_dr (.bl _) (.inl rfl))⟩
theorem snd_ite (ht : PT X et (tT X.K Γ ec W t)) (ha : SE X Γ ec W a ea) (hb : SE X Γ ec W b eb) : SE X Γ ec W (.ite t a b) (.IfExp et ea eb pos) := by
  refine PE.conseq (pe_ifExp ht ha hb) fun σ H Q h => ?_
  obtain ⟨F, O, ρ, P, E, e, w, hP, hE⟩ := h
  unfold wpE at w
  refine ⟨F, O, ρ, _, E, e, w, fun x hx => ?_, hE⟩
  obtain ⟨c, hc, q⟩ := optQ_iff hx
  refine ⟨c, hc, fun H1 s1 => ?_⟩
  cases c with
  | true =>
    rw [if_pos rfl] at q ⊢
    refine ⟨F, O, ρ, P, E, e.stp s1, q, fun d hd u H2 s2 r2 => ?_, hE.next s1⟩
    exact hP d hd u H2 (s1.trans s2) ⟨r2.b, fun n => r2.n (by simp only [nb, Bool.and_eq_true] at n; exact n.1), fun n => (nomatch n)⟩
  | false =>
    rw [if_neg Bool.false_ne_true] at q ⊢
    refine ⟨F, O, ρ, P, E, e.stp s1, q, fun d hd u H2 s2 r2 => ?_, hE.next s1⟩
    exact hP d hd u H2 (s1.trans s2) ⟨r2.b, fun n => r2.n (by simp only [nb, Bool.and_eq_true] at n; exact n.2), fun n => (nomatch n)⟩
/-! tests -/
theorem snt_plain (ha : SE X Γ ec W a ea) (he : ∀ whole, isTrue ea X.env whole = (do let v ← whole; standAt ea.pos; holding [v] (truthy v))) : PT X ea (tT X.K Γ ec W a) := by
  refine PT.conseq (pt_truth ha he) fun σ H Q h => ?_
  obtain ⟨F, O, ρ, P, E, e, w, hP, hE⟩ := h
  refine ⟨F, O, ρ, P, E, e, w, fun d hd v H1 s1 r1 => ?_, hE⟩
  obtain ⟨c, hc, q⟩ := hP d hd
  exact ⟨c, tru_d r1.b hc, q H1 s1⟩
theorem snt_not (ha : PT X ea (tT X.K Γ ec W a)) : PT X (.UnaryOp .Not ea pos) (tT X.K Γ ec W (.not a)) := by
  refine PT.conseq (pt_not ha) fun σ H Q h => ?_
  obtain ⟨F, O, ρ, P, E, e, w, hP, hE⟩ := h
  unfold wpE at w
  refine ⟨F, O, ρ, _, E, e, w, fun x hx => ?_, hE⟩
  obtain ⟨c, hc, q⟩ := optQ_iff hx
  obtain ⟨c', hc', q'⟩ := hP _ q
  cases hc'
  exact ⟨c, hc, q'⟩
theorem tT_and {σ : L2.St} {H : Hp} {Q : Bool → Hp → Prop} (h : tT X.K Γ ec W (.and a b) σ H Q) : tAnd (tT X.K Γ ec W a) (tT X.K Γ ec W b) σ H Q := by
  obtain ⟨F, O, ρ, P, E, e, w, hP, hE⟩ := h
  unfold wpE at w
  refine ⟨F, O, ρ, _, E, e, w, fun x hx => ?_, hE⟩
  obtain ⟨c, hc, q⟩ := optQ_iff hx
  refine ⟨c, hc, fun H1 s1 => ?_⟩
  cases c with
  | true =>
    rw [if_pos rfl] at q ⊢
    refine ⟨F, O, ρ, P, E, e.stp s1, q, fun d hd => ?_, hE.next s1⟩
    obtain ⟨c', hc', q'⟩ := hP d hd
    exact ⟨c', hc', fun H2 s2 => q' H2 (s1.trans s2)⟩
  | false =>
    rw [if_neg Bool.false_ne_true] at q ⊢
    obtain ⟨c', hc', q'⟩ := hP x q
    rw [hc] at hc'
    cases hc'
    exact q' H1 s1
theorem tT_or {σ : L2.St} {H : Hp} {Q : Bool → Hp → Prop} (h : tT X.K Γ ec W (.or a b) σ H Q) : tOr (tT X.K Γ ec W a) (tT X.K Γ ec W b) σ H Q := by
  obtain ⟨F, O, ρ, P, E, e, w, hP, hE⟩ := h
  unfold wpE at w
  refine ⟨F, O, ρ, _, E, e, w, fun x hx => ?_, hE⟩
  obtain ⟨c, hc, q⟩ := optQ_iff hx
  refine ⟨c, hc, fun H1 s1 => ?_⟩
  cases c with
  | false =>
    rw [if_neg Bool.false_ne_true] at q ⊢
    refine ⟨F, O, ρ, P, E, e.stp s1, q, fun d hd => ?_, hE.next s1⟩
    obtain ⟨c', hc', q'⟩ := hP d hd
    exact ⟨c', hc', fun H2 s2 => q' H2 (s1.trans s2)⟩
  | true =>
    rw [if_pos rfl] at q ⊢
    obtain ⟨c', hc', q'⟩ := hP x q
    rw [hc] at hc'
    cases hc'
    exact q' H1 s1
/-! argument lists, displays -/
theorem sna_nil : SA X Γ ec W .nil [] := by
  refine PA.conseq pa_nil fun σ H Q h => ?_
  obtain ⟨F, O, ρ, P, E, e, w, hP, hE⟩ := h
  exact hP [] w [] H (Stp.refl e) .nil rfl
theorem sna_cons {es : Exs} {eas : List Expr} (ha : SE X Γ ec W a ea) (hr : SA X Γ ec W es eas) (hs : starEach (ea :: eas) X.env = (false, eval ea X.env) :: starEach eas X.env) : SA X Γ ec W (.cons a es) (ea :: eas) := by
  refine PA.conseq (pa_cons ha hr hs) fun σ H Q h => ?_
  obtain ⟨F, O, ρ, P, E, e, w, hP, hE⟩ := h
  unfold wpX at w
  refine ⟨F, O, ρ, _, E, e, w, fun x hx v H1 s1 r1 => ?_, hE⟩
  refine ⟨F, O, ρ, _, E, e.stp s1, hx, fun ss hss vs H2 s2 r2 l2 => ?_, hE.next s1⟩
  refine hP _ hss _ H2 (s1.trans s2) (.cons ⟨r1.b.stp (e.stp s1) s2, fun n => (r1.n (by simp only [nbX, Bool.and_eq_true] at n; exact n.1)).stp (e.stp s1) s2⟩ ?_) (by rw [List.length_cons, l2]; rfl)
  refine Paired.mapP r2 fun v sl q => ?_
  cases sl with
  | fz d => exact ⟨q.1, fun n => q.2 (by simp only [nbX, Bool.and_eq_true] at n; exact n.2)⟩
  | dr => exact q
  | ow d => exact q
  | od d => exact q
theorem sna_dr {es : Exs} {eas : List Expr} {i : Nat} {x : Str} {p : Pos} (hN : X.N[i]? = some x) (hv : Vis X.env.scope x) (hd : (x == ("__debug__" : Str)) = false) (hcd : (x == ("__classdict__" : Str)) = false) (hr : SA X Γ ec W es eas) :
    SA X Γ ec W (.dr i es) (.Name x p :: eas) := by
  refine PA.conseq (pa_cons (pe_var hN hv hd hcd) hr rfl) fun σ H Q h => ?_
  obtain ⟨F, O, ρ, P, E, e, w, hP, hE⟩ := h
  unfold wpX at w
  split at w
  · rename_i hi
    obtain ⟨v, h1, h2⟩ := e.slot i _ hi
    refine ⟨v, h1, F, O, ρ, _, E, e, w, fun ss hss vs H2 s2 r2 l2 => ?_, hE⟩
    exact hP _ hss _ H2 s2 (.cons h2 r2) (by rw [List.length_cons, l2]; rfl)
  · exact w.elim
theorem wpX_len {es : Exs} {ρ : Rho} : ∀ {P : List Sl → Prop} {E : Str → Prop} {K : PySem.W.Frag} {F : Fm} {O : Addr → Prop} {H : Hp} {n : Bool} {vs : List V} {ss : List Sl}, Paired (ArgR K F O H n) vs ss → vs.length = ss.length := fun h => Paired.len h
theorem snd_tup {es : Exs} {eas : List Expr} {k : Nat} (ha : SA X Γ ec W es eas) (hn : nbX es = true) (h9 : lenX es ≤ 1000) : SE X Γ ec W (.tup es) (.Tuple eas k pos) := by
  refine PE.conseq (pe_tup ha) fun σ H Q h => ?_
  obtain ⟨F, O, ρ, P, E, e, w, hP, hE⟩ := h
  unfold wpE at w
  refine ⟨F, O, ρ, _, E, e, w, fun ss hss vs H1 s1 r1 hlen => ?_, hE⟩
  obtain ⟨ds, hds, q⟩ := optQ_iff hss
  rw [hn] at r1
  have hz : (1000 : Nat) ≤ sizeLine := by rw [sizeLine_eq]; decide
  refine ⟨by rw [hlen]; omega, ?_⟩
  exact (ansF_of (a := .tup es) e s1 hP _ q).tup (e.stp s1).dom (args_dr r1 hds)
theorem snd_lst {es : Exs} {eas : List Expr} (ha : SA X Γ ec W es eas) (hn : nbX es = true) (h9 : lenX es ≤ 1000) : SE X Γ ec W (.lst es) (.List eas pos) := by
  refine PE.conseq (pe_lst ha) fun σ H Q h => ?_
  obtain ⟨F, O, ρ, P, E, e, w, hP, hE⟩ := h
  unfold wpE at w
  refine ⟨F, O, ρ, _, E, e, w, fun ss hss vs H1 s1 r1 hlen => ?_, hE⟩
  obtain ⟨ds, hds, q⟩ := optQ_iff hss
  rw [hn] at r1
  have hz : (1000 : Nat) ≤ sizeLine := by rw [sizeLine_eq]; decide
  refine ⟨by rw [hlen]; omega, ?_⟩
  exact (ansF_of (a := .lst es) e s1 hP _ q).lst (e.stp s1).dom (args_dr r1 hds)
/-! subscripts, slices -/
theorem snd_sub (ha : SE X Γ ec W a ea) (hb : SE X Γ ec W b eb) (hs : PlainIx eb) : SE X Γ ec W (.sub a b) (.Subscript ea eb pos) := by
  refine PE.conseq (pe_ix ix_d ha hb hs) fun σ H Q h => ?_
  obtain ⟨F, O, ρ, P, E, e, w, hP, hE⟩ := h
  unfold wpE at w
  refine ⟨F, O, ρ, _, E, e, w, fun x hx v H1 s1 r1 => ?_, hE⟩
  refine ⟨F, O, ρ, _, E, e.stp s1, hx, fun y hy u H2 s2 r2 => ?_, hE.next s1⟩
  exact ⟨F.O0, O, x, y, ((e.stp s1).stp s2).dom, r1.b.stp (e.stp s1) s2, r2.b, P, hy, ans_of e (s1.trans s2) rfl hP⟩
theorem sno_no : PO X none (tO X.K Γ ec W .no) := ⟨fun pins s σ H Q I h => po_none.run pins s σ H Q I (by
  obtain ⟨F, O, ρ, P, E, e, w, hP, hE⟩ := h
  exact hP none w H (Stp.refl e))⟩
theorem sno_so (ha : SE X Γ ec W a ea) : PO X (some ea) (tO X.K Γ ec W (.so a)) := ⟨fun pins s σ H Q I h => (po_some ha).run pins s σ H Q I (by
  obtain ⟨F, O, ρ, P, E, e, w, hP, hE⟩ := h
  unfold wpO at w
  refine ⟨F, O, ρ, _, E, e, w, fun x hx v H1 s1 r1 => ?_, hE⟩
  cases x with
  | int i =>
    have hx' : P (some i) := hx
    exact ⟨i, r1.b.int, hP _ hx' H1 s1⟩
  | _ => exact hx.elim)⟩
theorem snd_cut {lo hi : Eo} {el eh : Option Expr} {p2 : Pos} (ha : SE X Γ ec W a ea) (hl : PO X el (tO X.K Γ ec W lo)) (hh : PO X eh (tO X.K Γ ec W hi)) : SE X Γ ec W (.cut a lo hi) (.Subscript ea (.Slice el eh none p2) pos) := by
  refine PE.conseq (pe_slice sl_d ha hl hh) fun σ H Q h => ?_
  obtain ⟨F, O, ρ, P, E, e, w, hP, hE⟩ := h
  unfold wpE at w
  refine ⟨F, O, ρ, _, E, e, w, fun x hx v H1 s1 r1 => ?_, hE⟩
  refine ⟨F, O, ρ, _, E, e.stp s1, hx, fun l hl H2 s2 => ?_, hE.next s1⟩
  refine ⟨F, O, ρ, _, E, (e.stp s1).stp s2, hl, fun u hu H3 s3 => ?_, (hE.next s1).next s2⟩
  exact ⟨F.O0, O, x, (((e.stp s1).stp s2).stp s3).dom, r1.b.stp (e.stp s1) (s2.trans s3), P, hu, ansF_of e (s1.trans (s2.trans s3)) hP⟩
/-! dicts -/
def tDGetN (K : PySem.W.Frag) (to tk td : TE) : TE := fun σ H Q => to σ H fun x H1 => ∃ a, x = .ref a ∧ (∃ xs, H1 a = some (dctO a xs)) ∧ tk σ H1 fun y H2 => td σ H2 fun z H3 => ∃ (b : Addr) (O : Addr → Prop) (xs : List EnV) (kvs : List (NestedKey × D)) (k : NestedKey), y = .ref b ∧ H3 a = some (dctO a xs) ∧ DV K O H3 xs kvs ∧ keyOkK k ∧ Dr K O H3 (.ref b) k.data ∧
  ∀ v, (lookX xs k = some v ∨ (lookX xs k = none ∧ v = z)) → Q v H3
theorem dict_type {pins : List (Addr × Obj)} {σ : L2.St} {H : Hp} {s : Shared} {a : Addr} {xs : List EnV} (I : Inv X pins σ H s) (e : H a = some (dctO a xs)) : s.TypeIs (.ref a) "dict" ∧ ∀ b, Value.ref a = .ref b → ∃ ob, s.heap.get? b = some ob ∧ ob.dict = none := by
  obtain ⟨⟨_, _, _, _, _, _, _, o, es, ep, ho, hx, hd, _⟩, _, _⟩ := (show ObjOk X.prog X.w H s.heap a (dctO a xs) from I.hok a _ e)
  exact ⟨⟨o, ho, hx.1⟩, fun b q => by cases q; exact ⟨o, ho, hx.2.1⟩⟩
theorem pe_dgetN {o e f : Expr} {apos cpos : Pos} {to tk td : TE} (hu : X.A.units + 66 < cLine) (ho : PE X o to) (he : PE X e tk) (hf : PE X f td) (m : M2 X o "get" apos e f cpos) : PE X (.Call (.Attribute o "get" apos) [e, f] [] cpos) (tDGetN X.K to tk td) := by
  refine ⟨fun pins s σ H Q I h => ?_⟩
  refine wpAny_Call_method m.base m.few m.line PySem.F.plainAttrs_dict PySem.F.slot_dict_get PySem.F.type_dict_get (thn (ho.run pins s σ H _ I h) fun u s1 ⟨x, H1, I1, rx, a, ex, ⟨xs0, d⟩, q1⟩ => ?_)
  subst ex
  obtain rfl : u = Value.ref a := rx
  obtain ⟨t1, t2⟩ := dict_type I1 d
  refine ⟨t1, t2, ?_⟩
  rw [m.trees]
  refine Calls.callWith_builtin rfl (Calls.evalArgs_plain (Calls.spliced_cons (thn (he.run pins s1 σ H1 _ I1 q1) fun iv s2 ⟨y, H2, I2, ry, q2⟩ =>
    Calls.spliced_cons (thn (hf.run pins s2 σ H2 _ I2 q2) fun fv s3 ⟨z, H3, I3, rz, b, O, xs, kvs, k, ey, ha, dv, hk, hb, q⟩ => Calls.spliced_nil ?_))))
  subst ey
  cases ry
  exact d_getN (by show X.A.units + 1 + 8 < cLine; omega) I3 ha dv hk hb rz fun v u' s' I' rv hv => ⟨v, H3, I', rv, q v hv⟩
theorem snd_dget {i : Nat} {x : Str} {k d : Ex} {ek ed : Expr} {p ap cp : Pos} (hu : X.A.units + 66 < cLine) (hN : X.N[i]? = some x) (hv : Vis X.env.scope x) (hd : (x == ("__debug__" : Str)) = false) (hcd : (x == ("__classdict__" : Str)) = false)
    (hk : SE X Γ ec W k ek) (hdd : SE X Γ ec W d ed) (nk : nb k = true) (nd : nb d = true) (m : M2 X (.Name x p) "get" ap ek ed cp) : SE X Γ ec W (.dget i k d) (.Call (.Attribute (.Name x p) "get" ap) [ek, ed] [] cp) := by
  refine PE.conseq (pe_dgetN hu (pe_var hN hv hd hcd) hk hdd m) fun σ H Q h => ?_
  obtain ⟨F, O, ρ, P, E, e, w, hP, hE⟩ := h
  unfold wpE at w
  split at w
  · rename_i kvs hi
    obtain ⟨a, xs, g1, g2, g3, g4, g5⟩ := e.odAt hi
    refine ⟨.ref a, g1, a, rfl, ⟨xs, g4⟩, F, O, ρ, _, E, e, w, fun y hy u H1 s1 r1 => ?_, hE⟩
    obtain ⟨kk, hkk, hy2⟩ := optQ_iff hy
    obtain ⟨e1, e2, ds, rfl⟩ := keyT_ok hkk
    have en1 := e.stp s1
    refine ⟨F, O, ρ, _, E, en1, hy2, fun z hz u2 H2 s2 r2 => ?_, hE.next s1⟩
    have en2 := en1.stp s2
    have dk := (r1.n nk).stp en1 s2
    obtain ⟨b, rfl⟩ : ∃ b, u = .ref b := by cases dk; exact ⟨_, rfl⟩
    have g4' := (s1.trans s2).keep _ _ (e.ndo g3) g4
    have g5' : DV X.K O H2 xs kvs := Paired.mapP g5 fun x p q => ⟨q.1, (q.2.1.stp e s1).stp en1 s2, (q.2.2.stp e s1).stp en1 s2⟩
    refine ⟨b, O, xs, kvs, kk, rfl, g4', g5', e2, by rw [e1]; exact dk, fun v hv => ?_⟩
    rcases dv_look g5' kk with ⟨f1, f2⟩ | ⟨v0, d0, f1, f2, f3⟩
    · rcases hv with hv | ⟨_, rfl⟩
      · rw [f1] at hv; cases hv
      · rw [f2] at hz
        exact hP _ hz _ H2 (s1.trans s2) (res_dr (r2.n nd) (.inl rfl))
    · rcases hv with hv | ⟨hv, _⟩
      · rw [f1] at hv
        cases hv
        rw [f2] at hz
        exact hP _ hz _ H2 (s1.trans s2) (res_dr f3 (.inl rfl))
      · rw [f1] at hv; cases hv
  · exact w.elim
def tViewN (K : PySem.W.Frag) (it : Bool) (to : TE) : TE := fun σ H Q => to σ H fun x H1 => ∃ (a : Addr) (O : Addr → Prop) (xs : List EnV) (kvs : List (NestedKey × D)), x = .ref a ∧ H1 a = some (dctO a xs) ∧ DV K O H1 xs kvs ∧ ∀ p, H1 p = none → Q (.ref p) (upd H1 p (viewO it p a))
theorem pe_viewN {o : Expr} {apos cpos : Pos} {to : TE} (it : Bool) (ho : PE X o to) (hbase : attributeBase o (if it then "items" else "values") X.env (eval o X.env) = eval o X.env) (hline : (apos.endLine == cpos.line) = true) :
    PE X (.Call (.Attribute o (if it then ("items" : Str) else ("values" : Str)) apos) [] [] cpos) (tViewN X.K it to) := by
  refine ⟨fun pins s σ H Q I h => ?_⟩
  cases it with
  | true =>
    refine wpAny_Call_method0_late hbase hline (thn (ho.run pins s σ H _ I h) fun u s1 ⟨x, H1, I1, rx, a, O, xs, kvs, ex, d, dv, q⟩ => ?_)
    subst ex
    obtain rfl : u = Value.ref a := rx
    obtain ⟨t1, t2⟩ := dict_type I1 d
    obtain ⟨a1, a2, a4, ys, re, o', es, ep, ho', hx, hdat, hes, his, hn⟩ := od_of I1 d dv
    refine ⟨"dict", _, PySem.F.plainAttrs_dict, PySem.F.slot_dict_items, PySem.F.type_dict_items, t1, t2, Calls.callWith_builtin rfl (PySem.evalArgs_none (DT.callItems (es := es) (ep := ep) a1 ⟨o', ho', hx, hdat⟩ ?_))⟩
    have hf : H1 s1.heap.objs.size = none := I1.hok.fresh (Nat.le_refl _)
    exact ⟨.ref s1.heap.objs.size, _, I1.laid (a := s1.heap.objs.size) (o := viewO true s1.heap.objs.size a) (t' := s1.toks) (fun b u e => Heap.get?_push_of_some _ e) (Nat.le_refl _) (L2.DX.itemsO_ok (Heap.get?_push_size _ rfl)), rfl, q _ hf⟩
  | false =>
    refine wpAny_Call_method0_late hbase hline (thn (ho.run pins s σ H _ I h) fun u s1 ⟨x, H1, I1, rx, a, O, xs, kvs, ex, d, dv, q⟩ => ?_)
    subst ex
    obtain rfl : u = Value.ref a := rx
    obtain ⟨t1, t2⟩ := dict_type I1 d
    obtain ⟨a1, a2, a4, ys, re, o', es, ep, ho', hx, hdat, hes, his, hn⟩ := od_of I1 d dv
    refine ⟨"dict", _, PySem.F.plainAttrs_dict, PySem.F.slot_dict_values, PySem.F.type_dict_values, t1, t2, Calls.callWith_builtin rfl (PySem.evalArgs_none (call_meetsIn PySem.F.slot_dict_values t1 PySem.F.entry_dict_values (PySem.F.args_dict_values_1 _) (meets_dict_values_raw a a1) ⟨⟨es, ep, o', ho', hx, hdat⟩, ?_⟩))⟩
    have hf : H1 s1.heap.objs.size = none := I1.hok.fresh (Nat.le_refl _)
    exact ⟨.ref s1.heap.objs.size, _, I1.laid (a := s1.heap.objs.size) (o := viewO false s1.heap.objs.size a) (t' := s1.toks) (fun b u e => Heap.get?_push_of_some _ e) (Nat.le_refl _) (valuesO_ok (Heap.get?_push_size _ rfl)), rfl, q _ hf⟩
theorem snd_dsort {i : Nat} {x : Str} {p p2 p3 ap cp : Pos} (it : Bool) (hu : X.A.units + 66 < cLine) (hc : X.calm = true) (hg : Gl X "sorted") (hm : X.mg "sorted" = none) (hN : X.N[i]? = some x) (hv : Vis X.env.scope x) (hd : (x == ("__debug__" : Str)) = false) (hcd : (x == ("__classdict__" : Str)) = false) (hl : (ap.endLine == cp.line) = true)
    (hbase : attributeBase (.Name x p) (if it then "items" else "values") X.env (eval (.Name x p) X.env) = eval (.Name x p) X.env) :
    SE X Γ ec W (.dsort it i) (.Call (.Name "sorted" p2) [.Call (.Attribute (.Name x p) (if it then ("items" : Str) else ("values" : Str)) ap) [] [] cp] [] p3) := by
  have hcr : CallR X (.builtin "sorted") (rSortView X.K it) := by cases it; exact cr_sortVals hc hu; exact cr_sortItems hc hu
  refine PE.conseq (pe_callB hcr hg hm PyProof.Rows.boot_sorted (pa_cons (pe_viewN it (pe_var hN hv hd hcd) hbase hl) pa_nil)) fun σ H Q h => ?_
  obtain ⟨F, O, ρ, P, E, e, w, hP, hE⟩ := h
  unfold wpE at w
  split at w
  · rename_i kvs hi
    obtain ⟨a, xs, g1, g2, g3, g4, g5⟩ := e.odAt hi
    refine ⟨.ref a, g1, a, O, xs, kvs, rfl, g4, g5, fun pp hp => ?_⟩
    have sm : Same H (upd H pp (viewO it pp a)) := same_upd hp
    have st := Stp.same e sm
    refine ⟨pp, a, O, xs, kvs, rfl, upd_same, sm _ _ g4, (e.stp st).dom, Paired.mapP g5 fun x p q => ⟨q.1, q.2.1.same sm, q.2.2.same sm⟩, w.1, ?_⟩
    exact ansF_of e st hP _ w.2
  · exact w.elim
end
end DL

set_option Elab.async false
set_option linter.all false
set_option maxRecDepth 100000
set_option maxHeartbeats 4000000
namespace DL
open PySem PySem.Spec PyProof.Rows L2

/-! ### shapes of the grammar -/
def starred : Expr → Bool
  | .Starred _ _ => true
  | _ => false
theorem star_cons {e : Expr} {es : List Expr} {env : Env} (h : starred e = false) : starEach (e :: es) env = (false, eval e env) :: starEach es env := by
  cases e <;> first | rfl | (simp [starred] at h)
theorem star_any {pos : Pos} {env : Env} : ∀ {es : List Expr}, es.all (fun e => !starred e) = true → (backTo pos (starEach es env)).any (·.1) = false
  | [], _ => rfl
  | e :: es, h => by
    rw [List.all_cons, Bool.and_eq_true] at h
    have h1 : starred e = false := by simpa using h.1
    have ih := star_any (pos := pos) (env := env) h.2
    rw [star_cons h1]
    show ((false, _) :: backTo pos (starEach es env)).any (·.1) = false
    rw [List.any_cons, ih]
    rfl
theorem assign_cons {e : Expr} {es : List Expr} {env : Env} (h : starred e = false) : assignEach (e :: es) env = (false, assign e env) :: assignEach es env := by
  cases e <;> first | rfl | (simp [starred] at h)
theorem mtE_star {Γ : Gam} {S : Sx} {a : Ex} {e : Expr} (h : mtE Γ S a e = true) : starred e = false := by
  cases e with
  | Starred v p => cases a <;> simp [mtE] at h
  | _ => rfl
def isSet : Expr → Bool
  | .Set _ _ _ => true
  | _ => false
theorem mtE_set {Γ : Gam} {S : Sx} {a : Ex} {e : Expr} (h : mtE Γ S a e = true) : isSet e = false := by
  cases e with
  | Set v k p => cases a <;> simp [mtE] at h
  | _ => rfl
theorem nomarkS {op : CmpOp} {e : Expr} (h : isSet e = false) : behindInMarks op e = false := by
  cases e <;> first | rfl | (simp [isSet] at h)
theorem foldS {e : Expr} {env : Env} (h : isSet e = false) (x : Value) : foldedSetIterable e env x = pure x := by
  cases e <;> first | rfl | (simp [isSet] at h)
def isSlice : Expr → Bool
  | .Slice _ _ _ _ => true
  | _ => false
theorem mtE_slice {Γ : Gam} {S : Sx} {a : Ex} {e : Expr} (h : mtE Γ S a e = true) : isSlice e = false := by
  cases e with
  | Slice l u s p => cases a <;> simp [mtE] at h
  | _ => rfl
theorem plainIx {e : Expr} (h : isSlice e = false) : PlainIx e := fun o i => by
  cases e <;> first | rfl | (simp [isSlice] at h)
theorem plainTe {e : Expr} {env : Env} (h : plainT e = true) : ∀ whole, isTrue e env whole = (do let v ← whole; standAt e.pos; holding [v] (truthy v)) := fun whole => by
  cases e with
  | UnaryOp op x p => cases op <;> first | rfl | exact absurd h (by simp [plainT])
  | BoolOp _ _ _ => exact absurd h (by simp [plainT])
  | IfExp _ _ _ _ => exact absurd h (by simp [plainT])
  | Compare _ _ _ _ => exact absurd h (by simp [plainT])
  | _ => rfl
theorem mtX_star {Γ : Gam} {S : Sx} : ∀ {es : Exs} {as : List Expr}, mtX Γ S es as = true → as.all (fun e => !starred e) = true ∧ as.length = lenX es
  | .nil, [], _ => ⟨rfl, rfl⟩
  | .nil, _ :: _, h => by simp [mtX] at h
  | .cons a es, [], h => by simp [mtX] at h
  | .cons a es, e :: as, h => by
    simp only [mtX, Bool.and_eq_true] at h
    obtain ⟨h1, h2⟩ := mtX_star h.2
    exact ⟨by rw [List.all_cons, h1, mtE_star h.1]; rfl, by rw [List.length_cons, h2]; rfl⟩
  | .dr i es, [], h => by simp [mtX] at h
  | .dr i es, e :: as, h => by
    simp only [mtX, Bool.and_eq_true] at h
    obtain ⟨h1, h2⟩ := mtX_star h.2
    refine ⟨?_, by rw [List.length_cons, h2]; rfl⟩
    cases e with
    | Name x p => rw [List.all_cons, h1]; rfl
    | _ => simp at h
/-- the number of the arguments -/
def lenSl (n : Nat) (P : List Sl → Prop) : List Sl → Prop := fun ss => P ss ∧ ss.length = n

/-! ### calls -/
section
variable {X : Cx} {Γ : Gam} {ec : Str → Value} {W : WX} {a b c t : Ex} {ea eb et e0 : Expr} {pos p : Pos}
theorem snd_chain {op op2 : CmpOp} (hu : X.A.units + 66 < cLine) (ha : SE X Γ ec W a ea) (hb : SE X Γ ec W b eb) (hc : SE X Γ ec W c et) (hm : lastMarks [op, op2] [eb, et] = false) : SE X Γ ec W (.chain op op2 a b c) (.Compare ea [op, op2] [eb, et] pos) := by
  refine PE.conseq (pe_chain (cmp_F (by omega) op) (cmp_F (by omega) op2) ha hb hc hm) fun σ H Q h => ?_
  obtain ⟨F, O, ρ, P, E, e, w, hP, hE⟩ := h
  unfold wpE at w
  refine ⟨F, O, ρ, _, E, e, w, fun x hx v H1 s1 r1 => ?_, hE⟩
  refine ⟨F, O, ρ, _, E, e.stp s1, hx, fun y hy u H2 s2 r2 => ?_, hE.next s1⟩
  refine ⟨F.O0, O, x, y, ((e.stp s1).stp s2).dom, r1.b.stp (e.stp s1) s2, r2.b, _, cmpF_bool hy, fun r hr w H3 sm dr fr => ?_⟩
  obtain ⟨hr, k, rfl⟩ := hr
  cases dr
  have s3 : Stp X.K F O H2 H3 := Stp.same ((e.stp s1).stp s2) sm
  have s13 := (s1.trans s2).trans s3
  refine ⟨k, rfl, ?_⟩
  cases k with
  | true =>
    rw [if_pos rfl]
    refine ⟨F, O, ρ, _, E, e.stp s13, hr, fun z hz u4 H4 s4 r4 => ?_, hE.next s13⟩
    exact ⟨F.O0, O, y, z, ((e.stp s13).stp s4).dom, r2.b.stp ((e.stp s1).stp s2) (s3.trans s4), r4.b, P, hz, ansF_of e (s13.trans s4) hP⟩
  | false =>
    rw [if_neg Bool.false_ne_true]
    exact hP _ hr _ H3 s13 (res_dr (.bl _) (.inl rfl))
theorem snt_chain {op op2 : CmpOp} (hu : X.A.units + 66 < cLine) (ha : SE X Γ ec W a ea) (hb : SE X Γ ec W b eb) (hc : SE X Γ ec W c et) (hm : lastMarks [op, op2] [eb, et] = false) : PT X (.Compare ea [op, op2] [eb, et] pos) (tT X.K Γ ec W (.chain op op2 a b c)) := by
  refine PT.conseq (pt_chain (cmp_F (by omega) op) (cmp_F (by omega) op2) ha hb hc hm) fun σ H Q h => ?_
  obtain ⟨F, O, ρ, P, E, e, w, hP, hE⟩ := h
  unfold wpE at w
  refine ⟨F, O, ρ, _, E, e, w, fun x hx v H1 s1 r1 => ?_, hE⟩
  refine ⟨F, O, ρ, _, E, e.stp s1, hx, fun y hy u H2 s2 r2 => ?_, hE.next s1⟩
  refine ⟨F.O0, O, x, y, ((e.stp s1).stp s2).dom, r1.b.stp (e.stp s1) s2, r2.b, _, cmpF_bool hy, fun r hr w H3 sm dr fr => ?_⟩
  obtain ⟨hr, k, rfl⟩ := hr
  cases dr
  have s3 : Stp X.K F O H2 H3 := Stp.same ((e.stp s1).stp s2) sm
  have s13 := (s1.trans s2).trans s3
  refine ⟨k, rfl, ?_⟩
  cases k with
  | true =>
    rw [if_pos rfl]
    refine ⟨F, O, ρ, _, E, e.stp s13, hr, fun z hz u4 H4 s4 r4 => ?_, hE.next s13⟩
    refine ⟨F.O0, O, y, z, ((e.stp s13).stp s4).dom, r2.b.stp ((e.stp s1).stp s2) (s3.trans s4), r4.b, _, cmpF_bool hz, fun r hr w H5 sm5 dr5 fr5 => ?_⟩
    obtain ⟨hr, k, rfl⟩ := hr
    cases dr5
    obtain ⟨c', hc', q'⟩ := hP _ hr
    cases hc'
    exact ⟨_, rfl, q' H5 ((s13.trans s4).trans (Stp.same ((e.stp s13).stp s4) sm5))⟩
  | false =>
    rw [if_neg Bool.false_ne_true]
    obtain ⟨c', hc', q'⟩ := hP _ hr
    cases hc'
    exact ⟨_, rfl, q' H3 s13⟩
theorem snd_callB {f : FD} {bx : Bi} {es : Exs} {eas : List Expr} {x : Str} {id : String} (hf : bx.fd = f) (hc : CallR X (.builtin id) (RCD X.K f)) (hg : Gl X x) (hm : X.mg x = none) (hv : bootBuiltins x = some (.builtin id)) (ha : SA X Γ ec W es (e0 :: eas))
    (hst : (e0 :: eas).all (fun e => !starred e) = true) (hn : x ≠ "__name__") (hdb : (x == ("__debug__" : Str)) = false) : SE X Γ ec W (.bi bx es) (.Call (.Name x p) (e0 :: eas) [] pos) := by
  have hs : starred e0 = false := by rw [List.all_cons, Bool.and_eq_true] at hst; simpa using hst.1
  have hs2 : eas.all (fun e => !starred e) = true := by rw [List.all_cons, Bool.and_eq_true] at hst; exact hst.2
  refine PE.conseq (pe_callB hc hg hm hv ha hn hdb (star_cons hs) (star_any hs2)) fun σ H Q h => ?_
  obtain ⟨F, O, ρ, P, E, e, w, hP, hE⟩ := h
  unfold wpE at w
  refine ⟨F, O, ρ, _, E, e, w, fun ss hss vs H1 s1 r1 _ => ?_, hE⟩
  obtain ⟨ds, hds, q⟩ := optQ_iff hss
  rw [hf] at q
  exact ⟨F.O0, O, ds, (e.stp s1).dom, args_bdr r1 hds, P, q, ansF_of e s1 hP⟩
theorem snd_callT {f : FD} {bx : Bi} {es : Exs} {eas : List Expr} {x : Str} {T : String} (hf : bx.fd = f) (hc : CallR X (.type T) (RCD X.K f)) (hg : Gl X x) (hm : X.mg x = none) (hv : bootBuiltins x = some (.type T)) (ha : SA X Γ ec W es (e0 :: eas))
    (hst : (e0 :: eas).all (fun e => !starred e) = true) (hn : x ≠ "__name__") (hdb : (x == ("__debug__" : Str)) = false) : SE X Γ ec W (.bi bx es) (.Call (.Name x p) (e0 :: eas) [] pos) := by
  have hs : starred e0 = false := by rw [List.all_cons, Bool.and_eq_true] at hst; simpa using hst.1
  have hs2 : eas.all (fun e => !starred e) = true := by rw [List.all_cons, Bool.and_eq_true] at hst; exact hst.2
  refine PE.conseq (pe_callTy hc hg hm hv ha hn hdb (star_cons hs) (star_any hs2)) fun σ H Q h => ?_
  obtain ⟨F, O, ρ, P, E, e, w, hP, hE⟩ := h
  unfold wpE at w
  refine ⟨F, O, ρ, _, E, e, w, fun ss hss vs H1 s1 r1 _ => ?_, hE⟩
  obtain ⟨ds, hds, q⟩ := optQ_iff hss
  rw [hf] at q
  exact ⟨F.O0, O, ds, (e.stp s1).dom, args_bdr r1 hds, P, q, ansF_of e s1 hP⟩
theorem snd_gcd {es : Exs} {eas : List Expr} {x : Str} (hg : Gl X x) (hm : X.mg x = some (.builtin "math.gcd")) (ha : SA X Γ ec W es (e0 :: eas))
    (hst : (e0 :: eas).all (fun e => !starred e) = true) (hdb : (x == ("__debug__" : Str)) = false) : SE X Γ ec W (.bi .gcd es) (.Call (.Name x p) (e0 :: eas) [] pos) := by
  have hs : starred e0 = false := by rw [List.all_cons, Bool.and_eq_true] at hst; simpa using hst.1
  have hs2 : eas.all (fun e => !starred e) = true := by rw [List.all_cons, Bool.and_eq_true] at hst; exact hst.2
  refine PE.conseq (pe_callBfun cr_dGcd hg hm ha hdb (star_cons hs) (star_any hs2)) fun σ H Q h => ?_
  obtain ⟨F, O, ρ, P, E, e, w, hP, hE⟩ := h
  unfold wpE at w
  refine ⟨F, O, ρ, _, E, e, w, fun ss hss vs H1 s1 r1 _ => ?_, hE⟩
  obtain ⟨ds, hds, q⟩ := optQ_iff hss
  exact ⟨F.O0, O, ds, (e.stp s1).dom, args_bdr r1 hds, P, q, ansF_of e s1 hP⟩
theorem pe_tyname {x : Str} {T : String} {pos : Pos} (hg : Gl X x) (hm : X.mg x = none) (hv : bootBuiltins x = some (.type T)) (hn : x ≠ "__name__") (hd : (x == ("__debug__" : Str)) = false) : PE X (.Name x pos) (L2.tC (.ty T)) := pe_bltn (v := V.ty T) hg hm hv rfl hn hd
theorem snd_isi {T : String} {y : Str} {p2 : Pos} (hT : T = "int" ∨ T = "bool" ∨ T = "str" ∨ T = "tuple" ∨ T = "list") (ha : SE X Γ ec W a ea) (hs : starred ea = false) (hg : Gl X "isinstance") (hm : X.mg "isinstance" = none) (hgy : Gl X y) (hmy : X.mg y = none)
    (hvy : bootBuiltins y = some (.type T)) (hn : y ≠ "__name__") (hd : (y == ("__debug__" : Str)) = false) : SE X Γ ec W (.isi a T) (.Call (.Name "isinstance" p) [ea, .Name y p2] [] pos) := by
  refine PE.conseq (pe_callB call_isi hg hm PyProof.Rows.boot_isinstance (pa_cons ha (pa_cons (pe_tyname hgy hmy hvy hn hd) pa_nil rfl) (star_cons hs)) (by decide) (by decide) (star_cons hs) rfl) fun σ H Q h => ?_
  obtain ⟨F, O, ρ, P, E, e, w, hP, hE⟩ := h
  unfold wpE at w
  refine ⟨F, O, ρ, _, E, e, w, fun d hd v H1 s1 r1 => ?_, hE⟩
  have nd : ∀ kvs, d ≠ .dict kvs := fun kvs q => by
    have hb := r1.b
    rw [q] at hb
    exact hb.dict
  exact ⟨v, .ty T, .type (tyOfD d), .type T, isiD T d, rfl, .ty T, r1.b.tyX, kit_ty (kit_isi T hT nd), hP _ hd _ H1 s1 (res_dr (.bl _) (.inl rfl))⟩
/-- a def of the program -/
theorem snd_call {f : Str} {es : Exs} {eas : List Expr} {k : Nat} {fa : Addr} {fd : FuncData} {ps : List Str} (tk : Takes X W) (Fo : FnOk X.prog X.w X.K X.mg X.base (L2.CX X.prog X.w) k fa fd ps (spF X.K ec (Γ.Φ f))) (hr : Room k X.A) (hg : Gl X f) (hm : X.mg f = some (.ref fa))
    (hk : PySem.W.keepIn X.K (.ref fa) = true) (hb : Binds X.K fd ps []) (ha : SA X Γ ec W es (e0 :: eas)) (hn : nbX es = true) (hst : (e0 :: eas).all (fun e => !starred e) = true) (hdb : (f == ("__debug__" : Str)) = false) :
    SE X Γ ec W (.call f es) (.Call (.Name f p) (e0 :: eas) [] pos) := by
  have hs : starred e0 = false := by rw [List.all_cons, Bool.and_eq_true] at hst; simpa using hst.1
  have hs2 : eas.all (fun e => !starred e) = true := by rw [List.all_cons, Bool.and_eq_true] at hst; exact hst.2
  refine PE.conseq (pe_callS Fo hr hg hm hk hb (fun σ => passAt tk σ) ha hdb (star_cons hs) (star_any hs2)) fun σ H Q h => ?_
  obtain ⟨F, O, ρ, P, E, e, w, hP, hE⟩ := h
  unfold wpE at w
  refine ⟨F, O, ρ, _, E, e, w, fun ss hss vs H1 s1 r1 _ => ?_, hE⟩
  have e1 := e.stp s1
  have cv : ∀ {H'}, Stp X.K ⟨O, F.dA, F.dC, H1⟩ O H1 H' → Stp X.K F O H1 H' := fun s => ⟨s.keep, s.drw⟩
  rw [hn] at r1
  refine ⟨O, F.dA, F.dC, ss, P, E, e1.dom, fun a ha => ⟨e1.sub a (e1.drw a ha).1, (e1.drw a ha).2⟩, Paired.mapP r1 fun v sl q => ?_, hss, fun d hd v H' s' dr => hP d hd v H' (s1.trans (cv s')) (res_dr dr (.inl rfl)), fun x hx H' s' => hE x hx H' (s1.trans (cv s'))⟩
  cases sl with
  | fz d => exact q.2 rfl
  | dr => exact q
  | ow d => exact q.elim
  | od d => exact q.elim
end

/-! ### targets -/
/-- only the slots vs may differ -/
structure Only (vs : List Nat) (σ σ' : L2.St) : Prop where
  len : σ'.length = σ.length
  at_ : ∀ j, j ∉ vs → σ'[j]? = σ[j]?
theorem Only.refl (vs : List Nat) (σ : L2.St) : Only vs σ σ := ⟨rfl, fun _ _ => rfl⟩
def tG (K : PySem.W.Frag) (tg : Tg) : TG := fun v σ H Q => ∃ F O ρ d P, EnvR K F O H σ ρ ∧ Dr K O H v d ∧ bindT tg d ρ P ∧ ∀ ρ', P ρ' → ∀ σ', Only (slotsT tg) σ σ' → EnvR K F O H σ' ρ' → Q σ' H
def tGs (K : PySem.W.Frag) (ts : Tgs) : TGs := fun vs σ H Q => ∃ F O ρ ds P, EnvR K F O H σ ρ ∧ DrA K O H vs ds ∧ bindTs ts ds ρ P ∧ ∀ ρ', P ρ' → ∀ σ', Only (slotsTs ts) σ σ' → EnvR K F O H σ' ρ' → Q σ' H
theorem PG.conseq {X : Cx} {e : Expr} {t t' : TG} (h : PG X e t) (i : ∀ v σ H Q, t' v σ H Q → t v σ H Q) : PG X e t' := ⟨fun pins s σ H v u Q I r w => h.run pins s σ H v u Q I r (i v σ H Q w)⟩
theorem PGs.conseq {X : Cx} {e : List Expr} {t t' : TGs} (h : PGs X e t) (i : ∀ v σ H Q, t' v σ H Q → t v σ H Q) : PGs X e t' := ⟨fun pins s σ H v u Q I r w => h.run pins s σ H v u Q I r (i v σ H Q w)⟩
theorem locB_of {S : Sx} {x : Str} (h : locB S x = true) : Loc S.sc x ∧ (S.fn x = true ∨ S.sc.names.lookup x = some .local) := by
  unfold locB at h
  split at h
  · rename_i q; exact ⟨.inl q, .inr q⟩
  · rename_i q; exact ⟨.inr q, .inl h⟩
  · cases h
theorem mtT_star {S : Sx} {t : Tg} {e : Expr} (h : mtT S t e = true) : starred e = false := by
  cases e with
  | Starred v p => cases t <;> simp [mtT] at h
  | _ => rfl
theorem mtTs_assign {S : Sx} {env : Env} : ∀ {ts : Tgs} {es : List Expr}, mtTs S ts es = true → (assignEach es env).length = tgsLen ts ∧ (assignEach es env).findIdx? (·.1) = none
  | .nil, [], _ => ⟨rfl, rfl⟩
  | .nil, _ :: _, h => by simp [mtTs] at h
  | .cons t ts, [], h => by simp [mtTs] at h
  | .cons t ts, e :: es, h => by
    simp only [mtTs, Bool.and_eq_true] at h
    obtain ⟨h1, h2⟩ := mtTs_assign (env := env) h.2
    rw [assign_cons (mtT_star h.1)]
    refine ⟨by rw [List.length_cons, h1]; rfl, ?_⟩
    rw [List.findIdx?_cons]
    simp [h2]
mutual
theorem sndT {X : Cx} {S : Sx} (hN : X.N = S.N) (hsc : X.env.scope = S.sc) (hfn : X.fn = S.fn) (hc : X.calm = true) (nd : X.N.Nodup) : ∀ (t : Tg) (e : Expr), mtT S t e = true → PG X e (tG X.K t)
  | .n i, e, h => by
    cases e with
    | Name x p =>
      simp only [mtT, Bool.and_eq_true, decide_eq_true_eq] at h
      obtain ⟨h1, h2⟩ := locB_of h.2
      rw [← hsc] at h1 h2
      rw [← hfn] at h2
      refine PG.conseq (pg_name nd (by rw [hN]; exact h.1) h1 h2) fun v σ H Q q => ?_
      obtain ⟨F, O, ρ, d, P, env, hd, w, hP⟩ := q
      unfold bindT at w
      exact hP _ w _ ⟨List.length_set .., fun j hj => by
        simp only [slotsT, List.mem_singleton] at hj
        exact List.getElem?_set_ne (Ne.symm hj)⟩ (env.set hd)
    | _ => simp [mtT] at h
  | .t ts, e, h => by
    cases e with
    | Tuple es k p =>
      simp only [mtT] at h
      obtain ⟨h1, h2⟩ := mtTs_assign (env := X.env) h
      refine PG.conseq (pg_tup hc (sndTs hN hsc hfn hc nd ts es h) h1 h2) fun v σ H Q q => ?_
      obtain ⟨F, O, ρ, d, P, env, hd, w, hP⟩ := q
      unfold bindT at w
      split at w
      · obtain ⟨w1, w2⟩ := w
        cases hd with
        | tup hs hA =>
          refine ⟨_, _, rfl, hs.sq, by rw [hA.length]; exact w1, F, O, ρ, _, P, env, hA, w2, fun ρ' hp σ' on env' => ?_⟩
          exact hP ρ' hp σ' ⟨on.len, fun j hj => on.at_ j (by simpa [slotsT] using hj)⟩ env'
      · exact w.elim
    | _ => simp [mtT] at h
theorem sndTs {X : Cx} {S : Sx} (hN : X.N = S.N) (hsc : X.env.scope = S.sc) (hfn : X.fn = S.fn) (hc : X.calm = true) (nd : X.N.Nodup) : ∀ (ts : Tgs) (es : List Expr), mtTs S ts es = true → PGs X es (tGs X.K ts)
  | .nil, [], _ => PGs.conseq pgs_nil fun vs σ H Q q => by
    obtain ⟨F, O, ρ, ds, P, env, hd, w, hP⟩ := q
    unfold bindTs at w
    obtain ⟨rfl, w⟩ := w
    cases hd
    exact ⟨rfl, hP _ w σ (Only.refl _ σ) env⟩
  | .nil, _ :: _, h => by simp [mtTs] at h
  | .cons t ts, [], h => by simp [mtTs] at h
  | .cons t ts, e :: es, h => by
    simp only [mtTs, Bool.and_eq_true] at h
    have hs := mtT_star h.1
    refine PGs.conseq (pgs_cons (sndT hN hsc hfn hc nd t e h.1) (sndTs hN hsc hfn hc nd ts es h.2) (by rw [assign_cons hs]; rfl)) fun vs σ H Q q => ?_
    obtain ⟨F, O, ρ, ds, P, env, hd, w, hP⟩ := q
    unfold bindTs at w
    split at w
    · cases hd with
      | cons h1 h2 =>
        refine ⟨_, _, rfl, F, O, ρ, _, _, env, h1, w, fun ρ' hp σ' on env' => ?_⟩
        refine ⟨F, O, ρ', _, P, env', h2, hp, fun ρ2 hp2 σ2 on2 env2 => hP ρ2 hp2 σ2 ⟨on2.len.trans on.len, fun j hj => ?_⟩ env2⟩
        simp only [slotsTs, List.mem_append, not_or] at hj
        exact (on2.at_ j hj.2).trans (on.at_ j hj.1)
    · exact w.elim
end
end DL

set_option Elab.async false
set_option linter.all false
set_option maxRecDepth 100000
set_option maxHeartbeats 4000000
namespace DL
open PySem PySem.Spec PyProof.Rows L2
/-! ### enumerate of a tuple -/
def ItEt (K : PySem.W.Frag) (a : Addr) : It :=
  ⟨fun i H => ∃ (xs : List V) (x : V), SqT K H a xs ∧ xs[i]? = some x, fun i H v H' => ∃ T x, v = .ref T ∧ H T = none ∧ H' = upd H T (.tup [.int (i : Nat), x]) ∧ ∀ xs, SqT K H a xs → xs[i]? = some x, fun i H => ∃ xs : List V, SqT K H a xs ∧ xs.length ≤ i⟩
theorem enum_endT {prog : Program} {w : World} {A : Around} {E : Value → Shared → Prop} {s : Shared} {e it t : Addr} {i : Nat} {k : Int} {items : Array Value} {old : Value} {Q : Option Value → Shared → Prop} (hh : A.handled = none)
    (he : IsEnum s.heap e it k old) (hit : s.heap.IsTupleIter it t i) (hl : s.heap.IsTuple t items) (hx : items[i]? = none) (hQ : ∀ h', Heap.ExtBut it s.heap h' → Q none { s with heap := h' }) :
    wpAny (model prog w) A (pyNext (.ref e)) Q E s := by
  have ty : s.TypeIs (.ref e) "enumerate" := ⟨_, he, rfl⟩
  unfold pyNext
  refine wpAny_bind (wpAny_attempt (wpAny_callSpecial?_slot (name := Str.ofString "__next__") ty F.slot_enumerate_next (wpAny_call_entry F.slot_enumerate_next ty F.entry_enumerate_next ?_ (F.args_enumerate_next_1 _))))
  show wpAny _ _ (field (.ref e) 2 >>= _) _ _ _
  refine wpAny_bind (wpAny_field he rfl (x := .ref it) rfl (wpAny_bind (wpAny_nextOf_tuple_end hh hit hl hx fun h' x up hc => ?_)))
  obtain ⟨o, ho, hc⟩ := hc
  exact wpAny_bind (wpAny_isInstance (T := "StopIteration") (b := true) ⟨o, ho, hc⟩ isSubtype_stop (wpAny_pure (hQ _ up)))
theorem turn_enumT {P : Program} {w : World} {K : PySem.W.Frag} {elts : List Expr} {kk : Nat} {tpos : Pos} (a e it : Addr) (hai : a ≠ it) (hea : e ≠ a) :
    Turn P w K (.Tuple elts kk tpos) (ItEt K a) [e, it] e (fun i h => (∃ old, IsEnum h e it ((i : Nat) : Int) old) ∧ h.IsTupleIter it a i ∧ e ≠ it) where
  mem := by simp
  obj := fun i h st b hb => by
    obtain ⟨⟨old, he⟩, ⟨o, ho, hc, hd⟩, _⟩ := st
    rcases (show b = e ∨ b = it by simpa using hb) with z | z
    · rw [z]; exact ⟨_, he, fun v q => nomatch q⟩
    · rw [z]; exact ⟨o, ho, fun v q => by rw [hd] at q; cases q⟩
  keep := fun i h h' st k => let ⟨⟨old, he⟩, hi, hne⟩ := st; ⟨⟨old, k e (by simp) _ he⟩, hi.at fun o q => k it (by simp) o q, hne⟩
  item := by
    intro X hP hw hK hc i pins s σ H E I hf st hg
    subst hP hw hK
    obtain ⟨⟨old, he⟩, hit, hne⟩ := st
    obtain ⟨xs, x, hq, hx⟩ := hg
    obtain ⟨its, rv, p, hz⟩ := I.tuple hq
    obtain ⟨u, hu, ru⟩ := rv.get hx
    have le : e < s.heap.objs.size := Heap.lt_size he
    have li : it < s.heap.objs.size := by obtain ⟨_, q, _⟩ := hit; exact Heap.lt_size q
    have Dt := Draws.tuple (prog := X.prog) (w := X.w) (A := X.A.in1) (I.ok.hd hc) it a hai its.toArray
    have hlt : i < its.toArray.size := by
      have := (List.getElem?_eq_some_iff.mp hu).1
      simpa using this
    refine wpAny_pyNext_enum_itemD Dt he ⟨hit, p⟩ hlt hne (by simp [hne, hea]) fun x' h' tk hx' ho hst hT hsz hk => ?_
    have ex : x' = u := by
      have : its[i]? = some x' := by simpa using hx'
      rw [hu] at this
      exact (Option.some.inj this).symm
    subst ex
    refine ⟨_, rfl, wpAny_letOwnedTupleGo_enum (s := { s with heap := h', toks := tk + 1 }) ho fun h'' he' sb => ?_⟩
    have hT2 : h''.get? s.heap.objs.size = some { cls := .type "tuple", data := .seq #[.int i tk, x'] } := (sb.2 _ (Nat.ne_of_gt le)).trans hT
    have new : ObjOk X.prog X.w (upd H s.heap.objs.size (.tup [.int (i : Nat), x])) h'' s.heap.objs.size (.tup [.int (i : Nat), x]) :=
      ⟨by show 2 ≤ sizeLine; decide, [.int i tk, x'], .cons ⟨_, rfl⟩ (.cons ru .nil), ⟨_, hT2, rfl, _, rfl⟩⟩
    have I1 : Inv X pins σ (upd H s.heap.objs.size (.tup [.int (i : Nat), x])) { s with heap := h'', toks := tk + 1 } :=
      I.turnedNew (ch := [e, it]) (fun b ob hb q => (sb.2 b (fun z => hb (by simp [z]))).trans (hk b ob (fun z => hb (by simp [z])) (fun z => hb (by simp [z])) q)) hf (Nat.le_refl _) new
    refine ⟨.ref s.heap.objs.size, _, I1, rfl, ⟨_, x, rfl, I.hok.fresh (Nat.le_refl _), rfl, fun ys hy => by rw [I.tuple_inj hy hq]; exact hx⟩, ⟨⟨x', ?_⟩, hst.1.at fun o q => (sb.2 it (Ne.symm hne)).trans q, hne⟩, fun b hb => ?_⟩
    · rw [show ((i + 1 : Nat) : Int) = (i : Int) + 1 by omega]; exact he'
    · have hb' : b < s.heap.objs.size := by
        rcases (show b = e ∨ b = it by simpa using hb) with z | z
        · rw [z]; exact le
        · rw [z]; exact li
      rw [upd_ne (Nat.ne_of_lt hb')]
      exact (hf b hb).1
  done := by
    intro X hP hw hK hc i pins s σ H E I hf st hg
    subst hP hw hK
    obtain ⟨⟨old, he⟩, hit, hne⟩ := st
    obtain ⟨xs, hq, hx⟩ := hg
    obtain ⟨its, rv, p, hz⟩ := I.tuple hq
    obtain ⟨f0, f1, f2, f3, f4, f5⟩ := hf it (by simp)
    have hl := rv.length
    exact enum_endT (I.ok.hd hc) he hit p (by simp; omega) fun h' eb => ⟨rfl, I.turned (t' := s.toks) (fun b o hb q => eb b o hb q) f0 f1 f3 f4 f5⟩
  self := fun A i s Q E st h => let ⟨⟨_, he⟩, _⟩ := st; wpAny_pyIter_enum he h
set_option maxHeartbeats 1000000 in
theorem meets_enum1 {v : Value} {o : Obj} {H : Heap → Prop} (B : Begins v o H) :
    Meets (Builtin.«enumerate.__new__» ⟨[.type "enumerate", v], []⟩) (fun _ R s => H s.heap ∧
      R (.ok (.ret (.ref (s.heap.push o).objs.size))) { s with heap := (s.heap.push o).push { cls := .type "enumerate", data := .fields #[.none, .bool false, .ref s.heap.objs.size, rawInt 0, .none, .none] } }) :=
  .of_wp fun prog w A R s h => by
    obtain ⟨hp, g, d, tk, os⟩ := s; obtain ⟨h1, h⟩ := h
    have hsub := sub_enumerate
    have q1 : ∀ {A' : Around} {E : Value → Shared → Prop} {Q : Value → Shared → Prop}, Q (.ref hp.objs.size) ⟨hp.push o, g, d, tk, os⟩ → wpAny (model prog w) A' (pyIter v) Q E ⟨hp, g, d, tk, os⟩ := fun q => B.iter prog w _ _ ⟨hp, g, d, tk, os⟩ _ h1 q
    wp_walk using q1
    refine wpAny_stack_any fun st => wpAny_pure ?_
    split
    · rename_i c _ _ _ _ _
      cases (c == Value.type "enumerate") <;> (wp_walk using q1; exact ⟨_, rfl, h⟩)
    · wp_walk using q1
      exact ⟨_, rfl, h⟩
theorem call_enum1 {prog : Program} {w : World} {A : Around} {E : Value → Shared → Prop} {s : Shared} {v : Value} {o : Obj} {H : Heap → Prop} {Q : Value → Shared → Prop} (B : Begins v o H) (h1 : H s.heap)
    (h : ∀ h', IsEnum h' (s.heap.objs.size + 1) s.heap.objs.size 0 .none → h'.get? s.heap.objs.size = some o → (∀ b o, s.heap.get? b = some o → h'.get? b = some o) → Q (.ref (s.heap.objs.size + 1)) { s with heap := h' }) :
    wpAny (model prog w) A (call (.type "enumerate") [v]) Q E s := by
  refine callType_new F.called_enumerate (by decide) (F.typeCall_enumerate_1 _) (F.newCall_enumerate_1 _) (fun obj => F.args_object_init_2 obj _) F.entry_enumerate_new (meets_enum1 B) ⟨h1, ?_⟩
  have hz : (s.heap.push o).objs.size = s.heap.objs.size + 1 := Heap.size_push ..
  show _ ∧ _
  rw [hz]
  have he : IsEnum ((s.heap.push o).push { cls := .type "enumerate", data := .fields #[.none, .bool false, .ref s.heap.objs.size, rawInt 0, .none, .none] }) (s.heap.objs.size + 1) s.heap.objs.size 0 .none := by
    have g := Heap.get?_push_size (s.heap.push o) (o := { cls := .type "enumerate", data := .fields #[.none, .bool false, .ref s.heap.objs.size, rawInt 0, .none, .none] }) rfl
    rw [hz] at g
    exact g
  exact ⟨⟨_, he, rfl⟩, h _ he (Heap.get?_push_of_some _ (Heap.get?_push_size _ B.free)) fun b o x => Heap.get?_push_of_some _ (Heap.get?_push_of_some _ x)⟩
/-- a list or a tuple -/
def iEnumB (K : PySem.W.Frag) (ta : TA) : TI := fun σ H R => ta σ H fun vs H1 => ∃ a xs, vs = [.ref a] ∧ ((SqL K H1 a xs ∧ R (Ite K a) H1) ∨ (SqT K H1 a xs ∧ R (ItEt K a) H1))
theorem pi_enumB {X : Cx} {e : Expr} {ta : TA} {p pos tpos : Pos} {elts : List Expr} {kk : Nat} (hg : Gl X "enumerate") (hm : X.mg "enumerate" = none) (ha : PA X [e] ta) (hs : starEach [e] X.env = [(false, eval e X.env)]) :
    PI X (.Tuple elts kk tpos) (.Call (.Name "enumerate" p) [e] [] pos) (iEnumB X.K ta) := by
  refine ⟨fun pins s σ H R I h => ?_⟩
  refine Call_ (ld_blt I hg hm boot_enumerate (PyProof.Rows.callWith_type1 (thn (ha.run pos pins s σ H _ I h) fun us s1 w1 => ?_) hs rfl))
  obtain ⟨vs, H1, I1, r1, a, xs, rfl, hq⟩ := w1
  cases r1 with
  | cons r rr =>
    cases rr
    cases r
    have far : ∀ b, b = s1.heap.objs.size + 1 ∨ b = s1.heap.objs.size → FpOk X pins H1 b := fun b hb => by
      have hle : s1.heap.objs.size ≤ b := by
        rcases hb with z | z
        · rw [z]; exact Nat.le_add_right _ _
        · rw [z]; exact Nat.le_refl _
      exact I1.fpOk hle (I1.hok.fresh hle)
    rcases hq with ⟨hq, q⟩ | ⟨hq, q⟩
    · obtain ⟨its, rv, p', hz⟩ := I1.list hq
      refine call_enumerate_list p'.isList fun h' he hit hsz hk => wpAny_pyIter_enum he ?_
      have I2 : Inv X pins σ H1 { s1 with heap := h' } := I1.kept (t' := s1.toks) hk
      exact ⟨s1.heap.objs.size + 1, [s1.heap.objs.size + 1, s1.heap.objs.size], _, _, H1, rfl, I2, turn_enum a (s1.heap.objs.size + 1) s1.heap.objs.size, ⟨⟨.none, he⟩, hit, Nat.succ_ne_self _⟩, fun b hb => far b (by simpa using hb), q⟩
    · obtain ⟨its, rv, p', hz⟩ := I1.tuple hq
      refine call_enum1 (begins_tuple a its.toArray) p' fun h' he hit hk => wpAny_pyIter_enum he ?_
      have I2 : Inv X pins σ H1 { s1 with heap := h' } := I1.kept (t' := s1.toks) hk
      have la : a < s1.heap.objs.size := by obtain ⟨o, ho, _⟩ := p'; exact Heap.lt_size ho
      exact ⟨s1.heap.objs.size + 1, [s1.heap.objs.size + 1, s1.heap.objs.size], _, _, H1, rfl, I2, turn_enumT a (s1.heap.objs.size + 1) s1.heap.objs.size (Nat.ne_of_lt la) (fun z => absurd la (by rw [← z]; exact Nat.not_lt.mpr (Nat.le_succ _))), ⟨⟨.none, he⟩, ⟨_, hit, rfl, rfl⟩, Nat.succ_ne_self _⟩, fun b hb => far b (by simpa using hb), q⟩
end DL

set_option Elab.async false
set_option linter.all false
set_option maxRecDepth 100000
set_option maxHeartbeats 4000000
namespace DL
open PySem PySem.Spec PyProof.Rows L2
/-! ### zip of lists and tuples, mixed -/
def ItB (c : Bool) (h : Heap) (it a : Addr) (i : Nat) : Prop := match c with
  | true => h.IsListIter it a i
  | false => h.IsTupleIter it a i
def IsB (c : Bool) (h : Heap) (a : Addr) (items : Array Value) : Prop := match c with
  | true => h.IsList a items
  | false => h.IsTuple a items
def SqB (c : Bool) (K : PySem.W.Frag) (H : Hp) (a : Addr) (xs : List V) : Prop := match c with
  | true => SqL K H a xs
  | false => SqT K H a xs
section
variable {prog : Program} {w : World} {A : Around} {c : Bool} {it a : Addr} {items : Array Value} {i : Nat}
theorem dr_std (hh : A.handled = none) (hne : a ≠ it) (items : Array Value) : Draws prog w A it [it, a] items.size (fun i v => items[i]? = some v) (fun i h => ItB c h it a i ∧ IsB c h a items) := by
  cases c with
  | true => exact Draws.list hh it a hne items
  | false => exact Draws.tuple hh it a hne items
theorem ItB.obj {h : Heap} (x : ItB c h it a i) : ∃ o, h.get? it = some o ∧ ∀ v, o.data ≠ .cell v := by
  cases c with
  | true => obtain ⟨o, e, _, d⟩ := x; exact ⟨o, e, fun v q => by rw [d] at q; cases q⟩
  | false => obtain ⟨o, e, _, d⟩ := x; exact ⟨o, e, fun v q => by rw [d] at q; cases q⟩
theorem ItB.lt {h : Heap} (x : ItB c h it a i) : it < h.objs.size := by
  obtain ⟨o, e, _⟩ := x.obj
  exact Heap.lt_size e
theorem ItB.at_ {h h' : Heap} (x : ItB c h it a i) (k : ∀ o, h.get? it = some o → h'.get? it = some o) : ItB c h' it a i := by
  cases c with
  | true => exact Heap.IsListIter.at x k
  | false => exact Heap.IsTupleIter.at x k
theorem IsB.at_ {h h' : Heap} (x : IsB c h a items) (k : ∀ o, h.get? a = some o → h'.get? a = some o) : IsB c h' a items := by
  cases c with
  | true => exact Heap.IsList.at x k
  | false => exact Heap.IsTuple.at x k
theorem dr_end (hh : A.handled = none) (hx : items[i]? = none) : Draws prog w A it [it, a] i (fun _ _ => True) (fun j h => j = i ∧ ItB c h it a i ∧ IsB c h a items) where
  live := fun _ h st => let ⟨o, e, _⟩ := st.2.1.obj; ⟨o, e⟩
  frame := fun j h h' st k => ⟨st.1, st.2.1.at_ fun o e => k it (by simp) o e, st.2.2.at_ fun o e => k a (by simp) o e⟩
  item := fun j s Q E hj st _ => absurd st.1 (by omega)
  done := fun s Q E st hE => by
    obtain ⟨_, st1, st2⟩ := st
    cases c with
    | true => exact wpAny_nextOf_list_end hh st1 st2 hx hE
    | false => exact wpAny_nextOf_tuple_end hh st1 st2 hx hE
end
theorem inv_B {X : Cx} {pins : List (Addr × Obj)} {σ : L2.St} {H : Hp} {s : Shared} {c : Bool} {a : Addr} {xs : List V} (I : Inv X pins σ H s) (h : SqB c X.K H a xs) : ∃ its : List Value, Vals xs its ∧ IsB c s.heap a its.toArray ∧ a < s.heap.objs.size := by
  cases c with
  | true =>
    obtain ⟨its, rv, p, _⟩ := I.list h
    exact ⟨its, rv, p.isList, p.lt⟩
  | false =>
    obtain ⟨its, rv, p, _⟩ := I.tuple h
    exact ⟨its, rv, p, by obtain ⟨o, e, _⟩ := p; exact Heap.lt_size e⟩
theorem inj_B {X : Cx} {pins : List (Addr × Obj)} {σ : L2.St} {H : Hp} {s : Shared} {c : Bool} {a : Addr} {xs ys : List V} (I : Inv X pins σ H s) (h : SqB c X.K H a xs) (k : SqB c X.K H a ys) : xs = ys := by
  cases c with
  | true => exact I.list_inj h k
  | false => exact I.tuple_inj h k
def ItzB (K : PySem.W.Frag) (c d : Bool) (a b : Addr) : It :=
  ⟨fun i H => ∃ (xs ys : List V) (x y : V), SqB c K H a xs ∧ SqB d K H b ys ∧ xs[i]? = some x ∧ ys[i]? = some y,
    fun i H v H' => ∃ T x y, v = .ref T ∧ H T = none ∧ H' = upd H T (.tup [x, y]) ∧ (∀ xs, SqB c K H a xs → xs[i]? = some x) ∧ ∀ ys, SqB d K H b ys → ys[i]? = some y,
    fun i H => ∃ xs ys : List V, SqB c K H a xs ∧ SqB d K H b ys ∧ (xs.length ≤ i ∨ ys.length ≤ i)⟩
structure Apart2 (z TI TO i1 i2 a b : Addr) : Prop where
  s : ZipSep2 z TI TO i1 i2 [i1, a] [i2, b]
  a1 : a ≠ i1
  b2 : b ≠ i2
theorem turn_zipB {P : Program} {w : World} {K : PySem.W.Frag} {elts : List Expr} {kk : Nat} {tpos : Pos} {c d : Bool} {a b z TI TO i1 i2 : Addr} (D : Apart2 z TI TO i1 i2 a b) :
    Turn P w K (.Tuple elts kk tpos) (ItzB K c d a b) [z, TI, TO, i1, i2] z (fun i h => IsZip h z TI TO .none ∧ IsTupOf2 h TI (.ref i1) (.ref i2) ∧ (∃ x y, IsTupOf2 h TO x y) ∧ ItB c h i1 a i ∧ ItB d h i2 b i) where
  mem := by simp
  obj := fun i h st q hq => by
    obtain ⟨hz, hTI, ⟨x, y, hTO⟩, h1, h2⟩ := st
    rcases (show q = z ∨ q = TI ∨ q = TO ∨ q = i1 ∨ q = i2 by simpa using hq) with e | e | e | e | e
    · rw [e]; exact ⟨_, hz, fun v q => nomatch q⟩
    · rw [e]; exact ⟨_, hTI, fun v q => nomatch q⟩
    · rw [e]; exact ⟨_, hTO, fun v q => nomatch q⟩
    · rw [e]; exact h1.obj
    · rw [e]; exact h2.obj
  keep := fun i h h' st k => by
    obtain ⟨hz, hTI, ⟨x, y, hTO⟩, h1, h2⟩ := st
    exact ⟨k z (by simp) _ hz, k TI (by simp) _ hTI, ⟨x, y, k TO (by simp) _ hTO⟩, h1.at_ fun o q => k i1 (by simp) o q, h2.at_ fun o q => k i2 (by simp) o q⟩
  item := by
    intro X hP hw hK hc i pins s σ H E I hf st hg
    subst hP hw hK
    obtain ⟨hz, hTI, ⟨x0, y0, hTO⟩, h1, h2⟩ := st
    obtain ⟨xs, ys, x, y, hqx, hqy, hx, hy⟩ := hg
    obtain ⟨its, rv, p, _⟩ := inv_B I hqx
    obtain ⟨its2, rv2, p2, _⟩ := inv_B I hqy
    obtain ⟨u, hu, ru⟩ := rv.get hx
    obtain ⟨u2, hu2, ru2⟩ := rv2.get hy
    have hzl : z < s.heap.objs.size := Heap.lt_size hz
    have l1 : i < its.toArray.size := by have := (List.getElem?_eq_some_iff.mp hu).1; simpa using this
    have l2 : i < its2.toArray.size := by have := (List.getElem?_eq_some_iff.mp hu2).1; simpa using this
    refine wpAny_pyNext_zipD2_item D.s (dr_std (c := c) (A := X.A.in1) (I.ok.hd hc) D.a1 its.toArray) (dr_std (c := d) (A := X.A.in1) (I.ok.hd hc) D.b2 its2.toArray) hz hTI hTO ⟨h1, p⟩ ⟨h2, p2⟩ l1 l2 fun v1 v2 h' tk e1 e2 z' TO' st1 st2 hT hsz hk => ?_
    have ev1 : v1 = u := by
      have q : its[i]? = some v1 := by simpa using e1
      rw [hu] at q; exact (Option.some.inj q).symm
    have ev2 : v2 = u2 := by
      have q : its2[i]? = some v2 := by simpa using e2
      rw [hu2] at q; exact (Option.some.inj q).symm
    subst ev1 ev2
    refine ⟨_, rfl, wpAny_letOwnedTupleGo_zip (s := { s with heap := h', toks := tk }) z' fun h'' z'' sb => ?_⟩
    have hT2 : IsTupOf2 h'' s.heap.objs.size v1 v2 := (sb.2 _ (Nat.ne_of_gt hzl)).trans hT
    have new : ObjOk X.prog X.w (upd H s.heap.objs.size (.tup [x, y])) h'' s.heap.objs.size (.tup [x, y]) := ⟨by show 2 ≤ sizeLine; decide, [v1, v2], .cons ru (.cons ru2 .nil), ⟨_, hT2, rfl, _, rfl⟩⟩
    have I1 : Inv X pins σ (upd H s.heap.objs.size (.tup [x, y])) { s with heap := h'', toks := tk } :=
      I.turnedNew (t' := tk) (ch := [z, TI, TO, i1, i2]) (fun q o hb e => (sb.2 q (fun q' => hb (by simp [q']))).trans (hk q o (fun q' => hb (by simp [q'])) (fun q' => hb (by simp [q'])) (fun q' => hb (by simp [q'])) (fun q' => hb (by simp [q'])) e)) hf (Nat.le_refl _) new
    refine ⟨.ref s.heap.objs.size, _, I1, rfl, ⟨_, x, y, rfl, I.hok.fresh (Nat.le_refl _), rfl, fun l hl => by rw [inj_B I hl hqx]; exact hx, fun l hl => by rw [inj_B I hl hqy]; exact hy⟩, ⟨z'', ?_, ⟨v1, v2, ?_⟩, ?_, ?_⟩, fun q hq => ?_⟩
    · exact (sb.2 _ D.s.TIz).trans (hk _ _ D.s.TIz D.s.TITO D.s.TIi1 D.s.TIi2 hTI)
    · exact (sb.2 _ D.s.TOz).trans TO'
    · exact st1.1.at_ fun o q => (sb.2 _ (fun e => D.s.zi1 e.symm)).trans q
    · exact st2.1.at_ fun o q => (sb.2 _ (fun e => D.s.zi2 e.symm)).trans q
    · have hlt : q < s.heap.objs.size := by
        rcases (show q = z ∨ q = TI ∨ q = TO ∨ q = i1 ∨ q = i2 by simpa using hq) with e | e | e | e | e
        · rw [e]; exact hzl
        · rw [e]; exact Heap.lt_size hTI
        · rw [e]; exact Heap.lt_size hTO
        · rw [e]; exact h1.lt
        · rw [e]; exact h2.lt
      rw [upd_ne (Nat.ne_of_lt hlt)]
      exact (hf q hq).1
  done := by
    intro X hP hw hK hc i pins s σ H E I hf st hg
    subst hP hw hK
    obtain ⟨hz, hTI, ⟨x0, y0, hTO⟩, h1, h2⟩ := st
    obtain ⟨xs, ys, hqx, hqy, hend⟩ := hg
    obtain ⟨its, rv, p, _⟩ := inv_B I hqx
    obtain ⟨its2, rv2, p2, _⟩ := inv_B I hqy
    have e1 := rv.length
    have e2 := rv2.length
    have fin : ∀ h' tk, (∀ q o, q ≠ z → q ≠ TO → q ≠ i1 → q ≠ i2 → s.heap.get? q = some o → h'.get? q = some o) → (none : Option Value) = none ∧ Inv X pins σ H { s with heap := h', toks := tk } := fun h' tk hk => ⟨rfl, I.turnedL (t' := tk) (ch := [z, TI, TO, i1, i2]) (fun q o hb e =>
      hk q o (fun q' => hb (by simp [q'])) (fun q' => hb (by simp [q'])) (fun q' => hb (by simp [q'])) (fun q' => hb (by simp [q'])) e) hf⟩
    have hh : X.A.in1.handled = none := I.ok.hd hc
    by_cases c1 : xs.length ≤ i
    · have n1 : its.toArray[i]? = none := by simp; omega
      by_cases c2 : ys.length ≤ i
      · have n2 : its2.toArray[i]? = none := by simp; omega
        exact wpAny_pyNext_zipD2_end D.s (dr_end (c := c) hh n1) (dr_end (c := d) hh n2) hz hTI hTO ⟨rfl, h1, p⟩ ⟨rfl, h2, p2⟩ (Nat.le_refl _) (Nat.le_refl _) (.inl rfl) fin
      · exact wpAny_pyNext_zipD2_end D.s (dr_end (c := c) hh n1) (dr_std (c := d) hh D.b2 its2.toArray) hz hTI hTO ⟨rfl, h1, p⟩ ⟨h2, p2⟩ (Nat.le_refl _) (by simp; omega) (.inl rfl) fin
    · have c2 : ys.length ≤ i := hend.resolve_left c1
      have n2 : its2.toArray[i]? = none := by simp; omega
      exact wpAny_pyNext_zipD2_end D.s (dr_std (c := c) hh D.a1 its.toArray) (dr_end (c := d) hh n2) hz hTI hTO ⟨h1, p⟩ ⟨rfl, h2, p2⟩ (by simp; omega) (Nat.le_refl _) (.inr rfl) fin
  self := fun A i s Q E st h => wpAny_pyIter_zip st.1 h
def itObj (c : Bool) (a : Addr) : Obj := match c with
  | true => { cls := .type "list_iterator", data := .fields #[.ref a, .int 0 0] }
  | false => { cls := .type "tuple_iterator", data := .fields #[.ref a, .int 0 0] }
theorem begins_B (c : Bool) (a : Addr) (items : Array Value) : Begins (.ref a) (itObj c a) fun h => IsB c h a items := by
  cases c with
  | true => exact begins_list a items
  | false => exact begins_tuple a items
theorem itB_new {c : Bool} {h : Heap} {it a : Addr} (e : h.get? it = some (itObj c a)) : ItB c h it a 0 := by
  cases c with
  | true => exact ⟨_, e, rfl, rfl⟩
  | false => exact ⟨_, e, rfl, rfl⟩
def iZipB (K : PySem.W.Frag) (ta : TA) : TI := fun σ H R => ta σ H fun vs H1 => ∃ (a b : Addr) (xs ys : List V) (c d : Bool), vs = [.ref a, .ref b] ∧ SqB c K H1 a xs ∧ SqB d K H1 b ys ∧ R (ItzB K c d a b) H1
theorem pi_zipB {X : Cx} {e e2 : Expr} {ta : TA} {p pos tpos : Pos} {elts : List Expr} {kk : Nat} (hg : Gl X "zip") (hm : X.mg "zip" = none) (ha : PA X [e, e2] ta)
    (hs : starEach [e, e2] X.env = (false, eval e X.env) :: starEach [e2] X.env) (hpl : (backTo pos (starEach [e2] X.env)).any (·.1) = false) :
    PI X (.Tuple elts kk tpos) (.Call (.Name "zip" p) [e, e2] [] pos) (iZipB X.K ta) := by
  refine ⟨fun pins s σ H R I h => ?_⟩
  refine Call_ (ld_blt I hg hm PyProof.Rows.boot_zip (PyProof.Rows.callWith_type1 (thn (ha.run pos pins s σ H _ I h) fun us s1 w1 => ?_) hs hpl))
  obtain ⟨vs, H1, I1, r1, a, b, xs, ys, c, d, rfl, hqx, hqy, q⟩ := w1
  cases r1 with
  | cons r rr =>
    cases rr with
    | cons r' rr =>
      cases rr
      cases r
      cases r'
      obtain ⟨its, rv, p1, la⟩ := inv_B I1 hqx
      obtain ⟨its2, rv2, p2, lb⟩ := inv_B I1 hqy
      refine zip_begins2 (begins_B c a its.toArray) (begins_B d b its2.toArray) p1 p2 fun h' hz hTI hTO g1 g2 hsz hk => wpAny_pyIter_zip hz ?_
      have I2 : Inv X pins σ H1 { s1 with heap := h' } := I1.kept (t' := s1.toks) hk
      have sp := zip_sep2 (N := s1.heap.objs.size) (fp1 := [a]) (fp2 := [b]) (by simpa using la) (by simpa using lb)
      have ap : Apart2 (s1.heap.objs.size + 4) (s1.heap.objs.size + 2) (s1.heap.objs.size + 3) s1.heap.objs.size (s1.heap.objs.size + 1) a b := ⟨sp, Nat.ne_of_lt la, Nat.ne_of_lt (Nat.lt_succ_of_lt lb)⟩
      refine ⟨s1.heap.objs.size + 4, [s1.heap.objs.size + 4, s1.heap.objs.size + 2, s1.heap.objs.size + 3, s1.heap.objs.size, s1.heap.objs.size + 1], _, _, H1, rfl, I2, turn_zipB (c := c) (d := d) ap, ⟨hz, hTI, ⟨_, _, hTO⟩, itB_new g1, itB_new g2⟩, fun q' hq' => ?_, q⟩
      have hle : s1.heap.objs.size ≤ q' := by
        rcases (show q' = s1.heap.objs.size + 4 ∨ q' = s1.heap.objs.size + 2 ∨ q' = s1.heap.objs.size + 3 ∨ q' = s1.heap.objs.size ∨ q' = s1.heap.objs.size + 1 by simpa using hq') with z | z | z | z | z
        · rw [z]; exact Nat.le_add_right _ _
        · rw [z]; exact Nat.le_add_right _ _
        · rw [z]; exact Nat.le_add_right _ _
        · rw [z]; exact Nat.le_refl _
        · rw [z]; exact Nat.le_add_right _ _
      exact I1.fpOk hle (I1.hok.fresh hle)
end DL

set_option Elab.async false
set_option linter.all false
set_option maxRecDepth 100000
set_option maxHeartbeats 4000000
namespace DL
open PySem PySem.Spec PyProof.Rows L2 RZ

/-! ### what is walked -/
/-- later states of a comprehension: what stands stands, but the draw -/
def Rc (F : Fm) (O : Addr → Prop) (H : Hp) : (Addr → Prop) → Hp → Prop := fun O2 H2 => (∀ b o, H b = some o → ¬ O b → ¬ O2 b) ∧ ∀ b o, F.dA ≠ some b → H b = some o → H2 b = some o
/-- later states of a loop: what nobody owned stands -/
def Rf (O : Addr → Prop) (H : Hp) : (Addr → Prop) → Hp → Prop := fun O2 H2 => ∀ b o, ¬ O b → H b = some o → ¬ O2 b ∧ H2 b = some o
def WkB (K : PySem.W.Frag) (F : Fm) (O : Addr → Prop) (H : Hp) (n : Bool) (J : L2.It) (ds : List D) : Prop := Wk K (Rc F O H) J ds ∧ (n = true → Wk K (Rf O H) J ds)
def tI (K : PySem.W.Frag) (Γ : Gam) (ec : Str → Value) (W : WX) (it : Ir) : TI := fun σ H R => ∃ F O ρ P E, EnvR K F O H σ ρ ∧ wpI Γ it ρ P E ∧ (∀ ds, P ds → ∀ J H', Stp K F O H H' → WkB K F O H' (nbI it) J ds → R J H') ∧ Er1 K ec W F O H σ E
theorem PI.conseq {X : Cx} {tg e : Expr} {t t' : TI} (h : PI X tg e t) (i : ∀ σ H R, t' σ H R → t σ H R) : PI X tg e t' := ⟨fun pins s σ H R I w => h.run pins s σ H R I (i σ H R w)⟩
section
variable {K : PySem.W.Frag} {F : Fm} {O : Addr → Prop} {H : Hp} {σ : L2.St} {ρ : Rho} {v : V} {ds es : List D}
/-- a list, as the two kinds of later states see it -/
theorem lst_later (e : EnvR K F O H σ ρ) (h : BDr K F.O0 O H v (.list ds)) : ∃ a xs, v = .ref a ∧ xs.length = ds.length ∧ H a = some (.lst xs) ∧ (∀ O2 H2, Rc F O H O2 H2 → SqL K H2 a xs ∧ DrA K O2 H2 xs ds) ∧ (Dr K O H v (.list ds) → ∀ O2 H2, Rf O H O2 H2 → SqL K H2 a xs ∧ DrA K O2 H2 xs ds) := by
  have key : ∀ {a : Addr} {xs : List V}, F.dA ≠ some a → H a = some (.lst xs) → DrA K O H xs ds → ∀ O2 H2, Rc F O H O2 H2 → SqL K H2 a xs ∧ DrA K O2 H2 xs ds := fun {a xs} n h1 h2 O2 H2 r =>
    ⟨SqL.of (r.2 a _ n h1), DrA.stay (fun b o q m => r.1 b o q m) (fun b o m q => r.2 b o (e.nd m) q) ds xs h2⟩
  rcases h with h | ⟨a, xs, ds', rfl, q, n, h1, h2⟩
  · cases h with
    | @lst a xs _ h1 h2 h3 =>
      refine ⟨a, xs, rfl, h3.length, h1, key (e.nd h2) h1 h3, fun _ O2 H2 r => ⟨SqL.of (r a _ h2 h1).2, DrA.stay (fun b o q m => (r b o m q).1) (fun b o m q => (r b o m q).2) ds xs h3⟩⟩
  · cases q
    refine ⟨a, xs, rfl, h2.length, h1, key (e.ndo n) h1 h2, fun hd O2 H2 r => ?_⟩
    cases hd with
    | @lst _ xs' _ g1 g2 g3 =>
      rw [h1] at g1
      cases g1
      exact ⟨SqL.of (r a _ g2 h1).2, DrA.stay (fun b o q m => (r b o m q).1) (fun b o m q => (r b o m q).2) ds xs h2⟩
theorem tup_later (e : EnvR K F O H σ ρ) (h : BDr K F.O0 O H v (.tuple ds)) : ∃ a xs, v = .ref a ∧ xs.length = ds.length ∧ SqT K H a xs ∧ (∀ O2 H2, Rc F O H O2 H2 → SqT K H2 a xs ∧ DrA K O2 H2 xs ds) ∧ (∀ O2 H2, Rf O H O2 H2 → SqT K H2 a xs ∧ DrA K O2 H2 xs ds) := by
  cases h.tupDr with
  | @tup a xs _ h1 h3 =>
    refine ⟨a, xs, rfl, h3.length, h1.sq, fun O2 H2 r => ⟨?_, DrA.stay (fun b o q m => r.1 b o q m) (fun b o m q => r.2 b o (e.nd m) q) ds xs h3⟩, fun O2 H2 r => ⟨?_, DrA.stay (fun b o q m => (r b o m q).1) (fun b o m q => (r b o m q).2) ds xs h3⟩⟩
    · exact (StT.stay (O' := O2) (H' := H2) h1 (fun b o q m => r.1 b o q m) fun o m q => r.2 a o (e.nd m) q).sq
    · exact (StT.stay (O' := O2) (H' := H2) h1 (fun b o q m => (r b o m q).1) fun o m q => (r a o m q).2).sq
end
section
variable {X : Cx} {Γ : Gam} {ec : Str → Value} {W : WX} {a b c t : Ex} {ea eb et e0 tge : Expr} {pos p : Pos}
def iSeq (K : PySem.W.Frag) (tl : TE) : TI := fun σ H R => tl σ H fun x H1 => ∃ a, x = .ref a ∧ ((∃ xs, SqL K H1 a xs ∧ R (Itl K a) H1) ∨ ∃ xs, SqT K H1 a xs ∧ R (Itt K a) H1)
theorem pi_seq {l : Expr} {tl : TE} (hl : PE X l tl) : PI X tge l (iSeq X.K tl) := by
  refine ⟨fun pins s σ H R I h => ?_⟩
  refine thn (hl.run pins s σ H _ I h) fun v s1 ⟨x, H1, I1, r1, q1⟩ => ?_
  obtain ⟨a, e, q⟩ := q1
  subst e
  cases r1
  rcases q with ⟨xs, hq, q⟩ | ⟨xs, hq, q⟩
  · obtain ⟨its, rv, p, hz⟩ := I1.list hq
    refine wpAny_pyIter_list p.isList ?_
    refine ⟨s1.heap.objs.size, [s1.heap.objs.size], _, _, H1, rfl, I1.kept (t' := s1.toks) fun b o e => Heap.get?_push_of_some _ e, turn_list a _, ⟨_, Heap.get?_push_size _ rfl, rfl, rfl⟩, fun b hb => ?_, q⟩
    have e : b = s1.heap.objs.size := by simpa using hb
    subst e
    exact I1.fpOk (Nat.le_refl _) (I1.hok.fresh (Nat.le_refl _))
  · obtain ⟨its, rv, p, hz⟩ := I1.tuple hq
    refine wpAny_pyIter_tuple (show s1.heap.IsTuple a its.toArray from p) ?_
    refine ⟨s1.heap.objs.size, [s1.heap.objs.size], _, _, H1, rfl, I1.kept (t' := s1.toks) fun b o e => Heap.get?_push_of_some _ e, turn_tuple a _, ⟨_, Heap.get?_push_size _ rfl, rfl, rfl⟩, fun b hb => ?_, q⟩
    have e : b = s1.heap.objs.size := by simpa using hb
    subst e
    exact I1.fpOk (Nat.le_refl _) (I1.hok.fresh (Nat.le_refl _))
theorem sni_seq (ha : SE X Γ ec W a ea) : PI X tge ea (tI X.K Γ ec W (.seq a)) := by
  refine PI.conseq (pi_seq ha) fun σ H R h => ?_
  obtain ⟨F, O, ρ, P, E, e, w, hP, hE⟩ := h
  unfold wpI at w
  refine ⟨F, O, ρ, _, E, e, w, fun d hd v H1 s1 r1 => ?_, hE⟩
  unfold seqOf at hd
  split at hd
  · obtain ⟨x, xs, rfl, hl, h0, h1, h2⟩ := lst_later (e.stp s1) r1.b
    exact ⟨x, rfl, .inl ⟨xs, SqL.of h0, hP _ hd _ H1 s1 ⟨wk_list (fun O2 H2 r => (h1 O2 H2 r).1) (fun O2 H2 r => (h1 O2 H2 r).2) hl, fun n => wk_list (fun O2 H2 r => (h2 (r1.n n) O2 H2 r).1) (fun O2 H2 r => (h2 (r1.n n) O2 H2 r).2) hl⟩⟩⟩
  · obtain ⟨x, xs, rfl, hl, h0, h1, h2⟩ := tup_later (e.stp s1) r1.b
    exact ⟨x, rfl, .inr ⟨xs, h0, hP _ hd _ H1 s1 ⟨wk_tup (fun O2 H2 r => (h1 O2 H2 r).1) (fun O2 H2 r => (h1 O2 H2 r).2) hl, fun n => wk_tup (fun O2 H2 r => (h2 O2 H2 r).1) (fun O2 H2 r => (h2 O2 H2 r).2) hl⟩⟩⟩
  · exact hd.elim
theorem fzs1 {ss : List Sl} {d : D} (h : fzs ss = some [d]) : ss = [.fz d] := by
  cases ss with
  | nil => simp [fzs] at h
  | cons s r =>
    cases s with
    | fz e =>
      simp only [fzs, Option.map_eq_some_iff] at h
      obtain ⟨q, h1, h2⟩ := h
      cases h2
      cases r with
      | nil => rfl
      | cons s' r' => cases s' <;> simp [fzs] at h1
    | _ => simp [fzs] at h
theorem sni_rng1 {es : Exs} (hg : Gl X "range") (hm : X.mg "range" = none) (ha : SA X Γ ec W es [ea]) (hs : starred ea = false) (h1e : lenX es = 1) : PI X tge (.Call (.Name "range" p) [ea] [] pos) (tI X.K Γ ec W (.rng es)) := by
  refine PI.conseq (pi_range1 hg hm ha (star_cons hs)) fun σ H R h => ?_
  obtain ⟨F, O, ρ, P, E, e, w, hP, hE⟩ := h
  unfold wpI at w
  refine ⟨F, O, ρ, _, E, e, w, fun ss hss vs H1 s1 r1 hl => ?_, hE⟩
  obtain ⟨ds, hds, q⟩ := optQ_iff hss
  have hb := args_bdr r1 hds
  unfold rngW at q
  split at q
  · rename_i j
    obtain ⟨v, rfl, h1⟩ := Paired.one hb
    rw [h1.int]
    exact ⟨_, rfl, q.1.1, q.1.2, hP _ q.2 _ H1 s1 ⟨wk_range, fun _ => wk_range⟩⟩
  · obtain ⟨v, v', rfl, h1⟩ := Paired.two hb
    rw [h1e] at hl
    cases hl
  · exact q.elim
theorem sni_rng2 {es : Exs} (hg : Gl X "range") (hm : X.mg "range" = none) (ha : SA X Γ ec W es [ea, eb]) (hs : starred ea = false) (hs2 : starred eb = false) (h1e : lenX es = 2) : PI X tge (.Call (.Name "range" p) [ea, eb] [] pos) (tI X.K Γ ec W (.rng es)) := by
  refine PI.conseq (pi_range2 hg hm ha (by rw [star_cons hs, star_cons hs2]; rfl) (star_cons hs2)) fun σ H R h => ?_
  obtain ⟨F, O, ρ, P, E, e, w, hP, hE⟩ := h
  unfold wpI at w
  refine ⟨F, O, ρ, _, E, e, w, fun ss hss vs H1 s1 r1 hl => ?_, hE⟩
  obtain ⟨ds, hds, q⟩ := optQ_iff hss
  have hb := args_bdr r1 hds
  unfold rngW at q
  split at q
  · obtain ⟨v, rfl, h1⟩ := Paired.one hb
    rw [h1e] at hl
    cases hl
  · obtain ⟨v, v', rfl, h1, h2⟩ := Paired.two hb
    rw [h1.int, h2.int]
    exact ⟨_, _, rfl, ⟨q.1.1, q.1.2, q.2.1.1, q.2.1.2⟩, hP _ q.2.2 _ H1 s1 ⟨wk_range, fun _ => wk_range⟩⟩
  · exact q.elim
theorem wk_enumT {K : PySem.W.Frag} {R : (Addr → Prop) → Hp → Prop} {a : Addr} {xs : List V} {ds : List D} (h1 : ∀ O' H', R O' H' → SqT K H' a xs) (h2 : ∀ O' H', R O' H' → DrA K O' H' xs ds) (hl : xs.length = ds.length) : Wk K R (ItEt K a) (enumD ds) := by
  refine ⟨fun H => SqT K H a xs, fun i H v H' => ∃ T x, v = .ref T ∧ H T = none ∧ H' = upd H T (.tup [.int (i : Nat), x]) ∧ xs[i]? = some x, ⟨fun i H hi q => ⟨xs, xs[i]'(by rw [enumD_length] at hi; omega), q, by simp⟩, fun H q => ⟨xs, q, by rw [enumD_length]; omega⟩, fun i H v H' hi q y => ?_⟩, h1, fun O' H' i x H'' r dm hi y => ?_⟩
  · obtain ⟨T, x, e1, e2, e3, e4⟩ := y
    exact ⟨T, x, e1, e2, e3, e4 xs q⟩
  · obtain ⟨T, u, rfl, hT, rfl, e2⟩ := y
    obtain ⟨d, e3, h3⟩ := (h2 O' _ r).get e2
    obtain ⟨p1, p2⟩ := dr_pair dm hT (.int (i : Nat)) h3
    exact ⟨p1, _, enumD_get e3, p2⟩
theorem sni_enum {elts : List Expr} {kk : Nat} {tpos : Pos} (hg : Gl X "enumerate") (hm : X.mg "enumerate" = none) (ha : SE X Γ ec W a ea) (hs : starred ea = false) : PI X (.Tuple elts kk tpos) (.Call (.Name "enumerate" p) [ea] [] pos) (tI X.K Γ ec W (.enum a)) := by
  refine PI.conseq (pi_enumB hg hm (pa_cons ha pa_nil (star_cons hs)) (star_cons hs)) fun σ H R h => ?_
  obtain ⟨F, O, ρ, P, E, e, w, hP, hE⟩ := h
  unfold wpI at w
  refine ⟨F, O, ρ, _, E, e, w, fun d hd v H1 s1 r1 => ?_, hE⟩
  unfold enumW at hd
  split at hd
  · obtain ⟨x, xs, rfl, hl, h0, h1, h2⟩ := lst_later (e.stp s1) r1.b
    exact ⟨x, xs, rfl, .inl ⟨SqL.of h0, hP _ hd _ H1 s1 ⟨wk_enum (fun O2 H2 r => (h1 O2 H2 r).1) (fun O2 H2 r => (h1 O2 H2 r).2) hl, fun n => wk_enum (fun O2 H2 r => (h2 (r1.n n) O2 H2 r).1) (fun O2 H2 r => (h2 (r1.n n) O2 H2 r).2) hl⟩⟩⟩
  · obtain ⟨x, xs, rfl, hl, h0, h1, h2⟩ := tup_later (e.stp s1) r1.b
    exact ⟨x, xs, rfl, .inr ⟨h0, hP _ hd _ H1 s1 ⟨wk_enumT (fun O2 H2 r => (h1 O2 H2 r).1) (fun O2 H2 r => (h1 O2 H2 r).2) hl, fun n => wk_enumT (fun O2 H2 r => (h2 O2 H2 r).1) (fun O2 H2 r => (h2 O2 H2 r).2) hl⟩⟩⟩
  · exact hd.elim
theorem wk_zipB {K : PySem.W.Frag} {R : (Addr → Prop) → Hp → Prop} {c d : Bool} {a b : Addr} {xs ys : List V} {ds es : List D} (h1 : ∀ O' H', R O' H' → SqB c K H' a xs) (h2 : ∀ O' H', R O' H' → DrA K O' H' xs ds) (hl : xs.length = ds.length) (g1 : ∀ O' H', R O' H' → SqB d K H' b ys) (g2 : ∀ O' H', R O' H' → DrA K O' H' ys es) (gl : ys.length = es.length) :
    Wk K R (ItzB K c d a b) (zipD ds es) := by
  refine ⟨fun H => SqB c K H a xs ∧ SqB d K H b ys, YPair (fun i => xs[i]?) (fun i => ys[i]?), ⟨fun i H hi q => ?_, fun H q => ⟨xs, ys, q.1, q.2, ?_⟩, fun i H v H' hi q y => ?_⟩, fun O' H' r => ⟨h1 O' H' r, g1 O' H' r⟩, fun O' H' i x H'' r dm hi y => ?_⟩
  · have hz : (zipD ds es).length = min ds.length es.length := by unfold zipD; rw [List.length_zipWith]
    rw [hz] at hi
    exact ⟨xs, ys, xs[i]'(by omega), ys[i]'(by omega), q.1, q.2, by simp, by simp⟩
  · have hz : (zipD ds es).length = min ds.length es.length := by unfold zipD; rw [List.length_zipWith]
    rw [hz]
    omega
  · obtain ⟨T, x, z, e1, e2, e3, e4, e5⟩ := y
    exact ⟨T, x, z, e1, e2, e3, e4 xs q.1, e5 ys q.2⟩
  · obtain ⟨T, u, v, rfl, hT, rfl, e1, e2⟩ := y
    obtain ⟨d, e3, h3⟩ := (h2 O' _ r).get e1
    obtain ⟨e, e4, h4⟩ := (g2 O' _ r).get e2
    obtain ⟨p1, p2⟩ := dr_pair dm hT h3 h4
    exact ⟨p1, _, zipD_get e3 e4, p2⟩
/-- a list or a tuple, as it stands now and later -/
theorem seq_later {K : PySem.W.Frag} {F : Fm} {O : Addr → Prop} {H : Hp} {σ : L2.St} {ρ : Rho} {v : V} {x : D} {P : List D → Prop} (e : EnvR K F O H σ ρ) (h : BDr K F.O0 O H v x) (hx : seqOf x P) :
    ∃ (ds : List D) (c : Bool) (a : Addr) (xs : List V), P ds ∧ v = .ref a ∧ xs.length = ds.length ∧ SqB c K H a xs ∧ (∀ O2 H2, Rc F O H O2 H2 → SqB c K H2 a xs ∧ DrA K O2 H2 xs ds) ∧ (Dr K O H v x → ∀ O2 H2, Rf O H O2 H2 → SqB c K H2 a xs ∧ DrA K O2 H2 xs ds) := by
  cases x with
  | list ds =>
    obtain ⟨a, xs, h1, h2, h3, h4, h5⟩ := lst_later e h
    exact ⟨ds, true, a, xs, hx, h1, h2, SqL.of h3, h4, h5⟩
  | tuple ds =>
    obtain ⟨a, xs, h1, h2, h3, h4, h5⟩ := tup_later e h
    exact ⟨ds, false, a, xs, hx, h1, h2, h3, h4, fun _ => h5⟩
  | _ => exact hx.elim
theorem sni_zip {elts : List Expr} {kk : Nat} {tpos : Pos} (hg : Gl X "zip") (hm : X.mg "zip" = none) (ha : SE X Γ ec W a ea) (hb : SE X Γ ec W b eb) (hs : starred ea = false) (hs2 : starred eb = false) : PI X (.Tuple elts kk tpos) (.Call (.Name "zip" p) [ea, eb] [] pos) (tI X.K Γ ec W (.zip a b)) := by
  refine PI.conseq (pi_zipB hg hm (pa_cons ha (pa_cons hb pa_nil (star_cons hs2)) (star_cons hs)) (star_cons hs) (by rw [star_cons hs2]; rfl)) fun σ H R h => ?_
  obtain ⟨F, O, ρ, P, E, e, w, hP, hE⟩ := h
  unfold wpI at w
  refine ⟨F, O, ρ, _, E, e, w, fun d hd v H1 s1 r1 => ?_, hE⟩
  refine ⟨F, O, ρ, _, E, e.stp s1, hd, fun y hy u H2 s2 r2 => ?_, hE.next s1⟩
  have e2 := (e.stp s1).stp s2
  have b1 := r1.b.stp (e.stp s1) s2
  unfold zipW at hy
  obtain ⟨ds, c, x, xs, hy, rfl, hl, h0, h1, h2⟩ := seq_later e2 b1 hy
  obtain ⟨es, cc, z, zs, hy, rfl, gl, g0, g1, g2⟩ := seq_later e2 r2.b hy
  refine ⟨x, z, xs, zs, c, cc, rfl, h0, g0, hP _ hy _ H2 (s1.trans s2) ⟨wk_zipB (fun O2 H2 r => (h1 O2 H2 r).1) (fun O2 H2 r => (h1 O2 H2 r).2) hl (fun O2 H2 r => (g1 O2 H2 r).1) (fun O2 H2 r => (g1 O2 H2 r).2) gl, fun n => ?_⟩⟩
  simp only [nbI, Bool.and_eq_true] at n
  exact wk_zipB (fun O2 H2 r => (h2 ((r1.n n.1).stp (e.stp s1) s2) O2 H2 r).1) (fun O2 H2 r => (h2 ((r1.n n.1).stp (e.stp s1) s2) O2 H2 r).2) hl (fun O2 H2 r => (g2 (r2.n n.2) O2 H2 r).1) (fun O2 H2 r => (g2 (r2.n n.2) O2 H2 r).2) gl
end
end DL

set_option Elab.async false
set_option linter.all false
set_option maxRecDepth 100000
set_option maxHeartbeats 4000000
namespace DL
open PySem PySem.Spec PyProof.Rows L2

/-! ### comprehensions -/
section
variable {K : PySem.W.Frag} {F : Fm} {O : Addr → Prop} {H H' : Hp} {σ : L2.St} {ρ : Rho} {p : Addr} {xs ys : List V}
theorem EnvR.wipe (e : EnvR K F O H σ ρ) : ∀ vs : List Nat, EnvR K F O H (L2.wipe σ vs) (wipeR ρ vs)
  | [] => e
  | v :: vs => (EnvR.wipe e vs).unset none
/-- nobody's slot holds p -/
def NoSlot (σ : L2.St) (ρ : Rho) (p : Addr) : Prop := ∀ (i : Nat) (d : Sl), d.isOw = true → ρ[i]? = some (some d) → σ[i]? ≠ some (some (.ref p))
/-- the heap grows by a list that no slot holds -/
theorem EnvR.grow (e : EnvR K F O H σ ρ) (hp : H p = none) : EnvR K F (fun a => O a ∨ a = p) (upd H p (.lst xs)) σ ρ ∧ NoSlot σ ρ p := by
  have sm : Same H (upd H p (.lst xs)) := same_upd hp
  have e' := e.stp (Stp.same e sm)
  have np : ¬ O p := e.dom.fresh hp
  have up : ∀ {v : V} {d : D}, Dr K O H v d → Dr K (fun a => O a ∨ a = p) (upd H p (.lst xs)) v d := fun {v d} hd => (hd.more hp).same sm
  have upA : ∀ {v : List V} {d : List D}, DrA K O H v d → DrA K (fun a => O a ∨ a = p) (upd H p (.lst xs)) v d := fun {v d} hd => (hd.more hp).same sm
  refine ⟨⟨e.len, fun j s q => ?_, e.sep, fun a h => .inl (e.sub a h), fun a h => ?_, fun a h n => ?_, e'.keep, fun a h => ?_⟩, fun i d ho h1 h2 => ?_⟩
  · obtain ⟨w, h1, h2⟩ := e.slot j s q
    refine ⟨w, h1, ?_⟩
    cases s with
    | fz d => exact up h2
    | dr => exact h2
    | ow d =>
      obtain ⟨a, rfl, h3, h4, ys, es, rfl, h5, h6⟩ := h2
      exact ⟨a, rfl, .inl h3, h4, ys, es, rfl, sm _ _ h5, upA h6⟩
    | od kvs =>
      obtain ⟨a, rfl, h3, h4, h5⟩ := h2
      exact ⟨a, rfl, .inl h3, h4, h5.map (fun o q => sm _ _ q) fun v d q => up q⟩
  · rcases h with h | rfl
    · exact e'.dom a h
    · exact ⟨_, upd_same⟩
  · rcases h with h | rfl
    · exact e.unp a h n
    · cases q : F.H0 a with
      | none => rfl
      | some o =>
        by_cases hd : F.dA = some a
        · exact absurd (e.drw a hd).1 n
        · rw [e.keep a o hd q] at hp; cases hp
  · obtain ⟨h1, cells, i', cur, seed, g1, g2, g3, g4⟩ := e'.drw a h
    refine ⟨h1, cells, i', cur, seed, g1, g2, fun q => ?_, g4⟩
    rcases q with q | q
    · exact g3 q
    · obtain ⟨_, cells0, i0, cur0, seed0, k1, k2, _⟩ := e.drw a h
      rw [q, hp] at k2; cases k2
  · obtain ⟨w, g1, g2⟩ := e.slot i _ h1
    rw [h2] at g1
    cases g1
    cases d with
    | ow f => obtain ⟨b, e1, g2, _⟩ := g2; cases e1; exact np g2
    | od f => obtain ⟨b, e1, g2, _⟩ := g2; cases e1; exact np g2
    | _ => cases ho
/-- that list changes -/
theorem EnvR.touch (e : EnvR K F O H σ ρ) (n : NoSlot σ ρ p) (hO : O p) (h0 : ¬ F.O0 p) : EnvR K F O (upd H p (.lst ys)) σ ρ := by
  have kp : ∀ b o, ¬ O b → H b = some o → (upd H p (.lst ys)) b = some o := fun b o nb q => by
    rw [upd_ne (fun z => nb (by rw [z]; exact hO))]
    exact q
  have nda : F.dA ≠ some p := e.ndo h0
  refine ⟨e.len, fun j s q => ?_, e.sep, e.sub, fun b hb => ?_, e.unp, fun b o nb hb => ?_, fun b hb => ?_⟩
  · obtain ⟨w, h1, h2⟩ := e.slot j s q
    refine ⟨w, h1, ?_⟩
    cases s with
    | fz d => exact Dr.stay (fun _ _ _ n => n) kp d w h2
    | dr => exact h2
    | ow d =>
      obtain ⟨a, rfl, h3, h4, ys', es, rfl, h5, h6⟩ := h2
      have na : a ≠ p := fun z => n j _ rfl q (by rw [h1, z])
      exact ⟨a, rfl, h3, h4, ys', es, rfl, by rw [upd_ne na]; exact h5, DrA.stay (fun _ _ _ n => n) kp es ys' h6⟩
    | od kvs =>
      obtain ⟨a, rfl, h3, h4, h5⟩ := h2
      have na : a ≠ p := fun z => n j _ rfl q (by rw [h1, z])
      exact ⟨a, rfl, h3, h4, h5.map (fun o q => by rw [upd_ne na]; exact q) fun v d q => Dr.stay (fun _ _ _ n => n) kp d v q⟩
  · by_cases hba : b = p
    · subst hba; exact ⟨_, upd_same⟩
    · rw [upd_ne hba]; exact e.dom b hb
  · have hba : b ≠ p := fun z => by
      rw [z, e.unp p hO h0] at hb; cases hb
    rw [upd_ne hba]
    exact e.keep b o nb hb
  · obtain ⟨g1, cells, i', cur, seed, k1, k2, k3, k4⟩ := e.drw b hb
    have nb : b ≠ p := fun z => nda (by rw [← z]; exact hb)
    have nc : F.dC ≠ p := fun z => k3 (by rw [z]; exact hO)
    exact ⟨g1, cells, i', cur, seed, by rw [upd_ne nb]; exact k1, by rw [upd_ne nc]; exact k2, k3, k4⟩
theorem wipe_get : ∀ {vs : List Nat} {σ : L2.St} {j : Nat}, (L2.wipe σ vs)[j]? = if j ∈ vs ∧ j < σ.length then some none else σ[j]?
  | [], σ, j => by simp [L2.wipe]
  | v :: vs, σ, j => by
    unfold L2.wipe
    by_cases hj : j = v
    · subst hj
      by_cases hl : j < σ.length
      · rw [List.getElem?_set_self (by rw [wipe_length]; exact hl), if_pos ⟨List.mem_cons_self, hl⟩]
      · rw [List.getElem?_eq_none (by rw [List.length_set, wipe_length]; omega), if_neg (fun q => hl q.2), List.getElem?_eq_none (by omega)]
    · rw [List.getElem?_set_ne (Ne.symm hj), wipe_get]
      by_cases hm : j ∈ vs ∧ j < σ.length
      · rw [if_pos hm, if_pos ⟨List.mem_cons_of_mem _ hm.1, hm.2⟩]
      · rw [if_neg hm, if_neg (fun q => hm ⟨(List.mem_cons.mp q.1).resolve_left hj, q.2⟩)]
theorem wipe_only {vs ts : List Nat} {σ' : L2.St} (h : Only ts σ σ') (hs : ∀ j ∈ ts, j ∈ vs) : L2.wipe σ' vs = L2.wipe σ vs := by
  apply List.ext_getElem?
  intro j
  rw [wipe_get, wipe_get, h.len]
  by_cases hm : j ∈ vs ∧ j < σ.length
  · rw [if_pos hm, if_pos hm]
  · rw [if_neg hm, if_neg hm]
    by_cases hj : j ∈ ts
    · have : ¬ j < σ.length := fun q => hm ⟨hs j hj, q⟩
      rw [List.getElem?_eq_none (by rw [h.len]; omega), List.getElem?_eq_none (by omega)]
    · exact h.at_ j hj
theorem wipe_idem {vs : List Nat} : L2.wipe (L2.wipe σ vs) vs = L2.wipe σ vs := by
  apply List.ext_getElem?
  intro j
  rw [wipe_get, wipe_get, wipe_length]
  by_cases hm : j ∈ vs ∧ j < σ.length
  · rw [if_pos hm, if_pos hm]
  · rw [if_neg hm, if_neg hm]
end

section
variable {X : Cx} {Γ : Gam} {ec : Str → Value} {W : WX}
abbrev W0 : WX := fun _ _ _ _ => False
theorem snd_comp {own : List (Str × Nat)} {elt : Ex} {tg : Tg} {it : Ir} {ifs : Eo} {eelt etg eiter : Expr} {eifs : List Expr} {scope : Scope} {pos : Pos} (hc : X.calm = true) (nd : X.N.Nodup) (hi : PI X etg eiter (tI X.K Γ ec W it)) (ok : BlkOk X.N X.env.scope scope own)
    (hsub : ∀ j ∈ slotsT tg, j ∈ own.map (·.2)) (hne : nb elt = true)
    (hg : ∀ (s : Shared) (H : Hp) (C : Addr) (cl : List (Str × Addr)) (fp : List Addr), PG (X.blk s H scope (compEnvC scope cl C X.env) fp) etg (tG X.K tg)) (ht : ∀ (s : Shared) (H : Hp) (C : Addr) (cl : List (Str × Addr)) (fp : List Addr), PTs (X.blk s H scope (compEnvC scope cl C X.env) fp) eifs (tC X.K Γ ec W0 ifs))
    (he : ∀ (s : Shared) (H : Hp) (C : Addr) (cl : List (Str × Addr)) (fp : List Addr), PE (X.blk s H scope (compEnvC scope cl C X.env) fp) eelt (tE X.K Γ ec W0 elt)) (hs : ∀ x, foldedSetIterable eiter X.env x = pure x) :
    SE X Γ ec W (.comp own elt tg it ifs) (.ListComp eelt [⟨etg, eiter, eifs, 0⟩] scope pos) ∧
    ∀ σ H Q, tE X.K Γ ec W (.comp own elt tg it ifs) σ H Q → tLc (tI X.K Γ ec W it) (tG X.K tg) (tC X.K Γ ec W0 ifs) (tE X.K Γ ec W0 elt) (own.map (·.2)) σ H Q := by
  have main : ∀ σ H Q, tE X.K Γ ec W (.comp own elt tg it ifs) σ H Q → tLc (tI X.K Γ ec W it) (tG X.K tg) (tC X.K Γ ec W0 ifs) (tE X.K Γ ec W0 elt) (own.map (·.2)) σ H Q := by
    intro σ H Q h
    obtain ⟨F, O, ρ, P, E, e, w, hP, hE⟩ := h
    unfold wpE at w
    refine ⟨F, O, ρ, _, E, e, w, fun ds hds J H1 s1 wk => ?_, hE⟩
    obtain ⟨hlen, hfold⟩ := hds
    obtain ⟨G, Y, walk, hGR, hY⟩ := wk.1
    intro D hD
    have e1 := e.stp s1
    have ndO : ¬ O D := e1.dom.fresh hD
    have nO0 : ¬ F.O0 D := fun q => ndO (e1.sub D q)
    have nda : F.dA ≠ some D := e1.ndo nO0
    generalize hvs : own.map (·.2) = vs at *
    generalize hst : (fun (d : PyData) (acc : List PyData) (k : List PyData → Prop) => bindT tg d (wipeR ρ vs) fun ρ1 => wpC Γ ifs ρ1 (fun c => if c = true then wpE Γ elt ρ1 (fun y => k (acc ++ [y])) nE else k acc) nE) = step at hfold
    -- later states
    have later : ∀ {O2 : Addr → Prop} {H2 : Hp}, EnvR X.K F (fun a => O a ∨ a = D) H2 (L2.wipe σ vs) (wipeR ρ vs) → (∀ b o, F.dA ≠ some b → H1 b = some o → H2 b = some o) → Rc F O H1 (fun a => O a ∨ a = D) H2 := fun {O2 H2} e2 k =>
      ⟨fun b o q m z => (by
        rcases z with z | z
        · exact m z
        · rw [z, hD] at q; cases q), k⟩
    refine lc_it walk (fun i H' => ∃ xs acc, EnvR X.K F (fun a => O a ∨ a = D) H' (L2.wipe σ vs) (wipeR ρ vs) ∧ NoSlot (L2.wipe σ vs) (wipeR ρ vs) D ∧ (∀ b o, F.dA ≠ some b → H1 b = some o → H' b = some o) ∧ H' D = some (.lst xs) ∧ DrA X.K (fun a => O a ∨ a = D) H' xs acc ∧ xs.length ≤ i ∧ foldW step (ds.drop i) acc fun acc => P (.list acc)) ?_ ?_ ?_ ?_
    · obtain ⟨g1, g2⟩ := (e1.wipe vs).grow (xs := []) hD
      exact ⟨[], [], g1, g2, fun b o _ q => same_upd hD b o q, upd_same, .nil, Nat.le_refl _, by rw [List.drop_zero]; exact hfold⟩
    · rintro i H' _ ⟨xs, acc, e2, n2, k2, _⟩
      exact hGR _ _ (later (O2 := O) e2 k2)
    · rintro i x H' H'' hi ⟨xs, acc, e2, n2, k2, hx, hA, hl, hf⟩ y
      obtain ⟨sm, d, hd, hdr⟩ := hY _ _ i x H'' (later (O2 := O) e2 k2) e2.dom hi y
      have st2 : Stp X.K F (fun a => O a ∨ a = D) H' H'' := Stp.same e2 sm
      have e3 := e2.stp st2
      have edrop : ds.drop i = d :: ds.drop (i + 1) := by
        obtain ⟨h1, h2⟩ := List.getElem?_eq_some_iff.mp hd
        rw [List.drop_eq_getElem_cons h1, h2]
      rw [edrop] at hf
      unfold foldW at hf
      have hf' : bindT tg d (wipeR ρ vs) fun ρ1 => wpC Γ ifs ρ1 (fun c => if c = true then wpE Γ elt ρ1 (fun y => foldW step (ds.drop (i + 1)) (acc ++ [y]) fun acc => P (.list acc)) nE else foldW step (ds.drop (i + 1)) acc fun acc => P (.list acc)) nE := by
        rw [← hst] at hf ⊢
        exact hf
      -- what the next turn wants, from a later heap
      have stay : ∀ {H4 : Hp}, Stp X.K F (fun a => O a ∨ a = D) H'' H4 → EnvR X.K F (fun a => O a ∨ a = D) H4 (L2.wipe σ vs) (wipeR ρ vs) ∧ (∀ b o, F.dA ≠ some b → H1 b = some o → H4 b = some o) ∧ H4 D = some (.lst xs) ∧ DrA X.K (fun a => O a ∨ a = D) H4 xs acc := fun {H4} s4 =>
        ⟨e3.stp s4, fun b o n q => s4.keep b o n (sm b o (k2 b o n q)), s4.keep _ _ nda (sm _ _ hx), (hA.same sm).stp e3 s4⟩
      refine ⟨F, (fun a => O a ∨ a = D), wipeR ρ vs, d, _, e3, hdr, hf', fun ρ1 h1 σ1 on e4 => ?_⟩
      refine ⟨(wipe_only on hsub).trans wipe_idem, F, (fun a => O a ∨ a = D), ρ1, _, nE, e4, h1, fun b hb H3 s3 => ?_, fun x hx => hx.elim⟩
      cases b with
      | true =>
        rw [if_pos rfl] at hb ⊢
        refine ⟨F, (fun a => O a ∨ a = D), ρ1, _, nE, e4.stp s3, hb, fun yd hyd yv H4 s4 r4 => ?_, fun x hx => hx.elim⟩
        obtain ⟨g1, g2, g3, g4⟩ := stay (s3.trans s4)
        have hlt : xs.length < ds.length := Nat.lt_of_le_of_lt hl hi
        refine ⟨xs, g3, by omega, xs ++ [yv], acc ++ [yd], g1.touch n2 (.inr rfl) nO0, n2, fun b o n q => ?_, upd_same, ?_, by rw [List.length_append]; simp; exact hl, hyd⟩
        · have nb' : b ≠ D := fun z => by rw [z, hD] at q; cases q
          rw [upd_ne nb']
          exact g2 b o n q
        · have kp : ∀ b o, ¬ (O b ∨ b = D) → H4 b = some o → (upd H4 D (.lst (xs ++ [yv]))) b = some o := fun b o m q => by
            rw [upd_ne (fun z => m (.inr z))]
            exact q
          exact DrA.stay (fun _ _ _ n => n) kp _ _ (g4.append (.cons (r4.n hne) .nil))
      | false =>
        rw [if_neg Bool.false_ne_true] at hb ⊢
        obtain ⟨g1, g2, g3, g4⟩ := stay s3
        exact ⟨xs, acc, g1, n2, g2, g3, g4, by omega, hb⟩
    · rintro H' ⟨xs, acc, e2, n2, k2, hx, hA, hl, hf⟩
      rw [List.drop_length] at hf
      have hA' : DrA X.K O H' xs acc := DrA.stay (fun _ _ _ n q => n (.inl q)) (fun _ _ _ q => q) _ _ hA
      have hdr : Dr X.K O H' (.ref D) (.list acc) := .lst hx ndO hA'
      refine hP _ hf _ H' ⟨fun b o n q => k2 b o n (s1.keep b o n q), fun a ha => ?_⟩ ⟨.inl hdr, fun _ => hdr, fun _ ds' eq => ?_⟩
      · obtain ⟨h1, cells, i', cur, seed, q1, q2, q3, q4⟩ := e2.drw a ha
        exact ⟨cells, i', cur, seed, q1, q2, fun z => q3 (.inl z), q4⟩
      · cases eq
        exact ⟨D, xs, rfl, s1.free e hD, hx, hA⟩
  exact ⟨PE.conseq (pe_lc hc nd hi ok hg ht he hs) main, main⟩
/-! two clauses -/
/-- a target's binding makes no owned name -/
def NewOw (ts : List Nat) (ρ ρ' : Rho) : Prop := ∀ (i : Nat) (e : Sl), e.isOw = true → ρ'[i]? = some (some e) → i ∉ ts ∧ ρ[i]? = some (some e)
theorem newOw_trans {ts us : List Nat} {ρ ρ1 ρ2 : Rho} (h : NewOw ts ρ ρ1) (k : NewOw us ρ1 ρ2) : NewOw (ts ++ us) ρ ρ2 := fun i e ho q => by
  obtain ⟨h1, h2⟩ := k i e ho q
  obtain ⟨h3, h4⟩ := h i e ho h2
  exact ⟨fun m => (List.mem_append.mp m).elim h3 h1, h4⟩
mutual
theorem bindT_mono : ∀ (t : Tg) (d : D) (ρ : Rho) (P Q : Rho → Prop), (∀ r, P r → Q r) → bindT t d ρ P → bindT t d ρ Q
  | .n i, d, ρ, P, Q, h, q => by
    unfold bindT at q ⊢
    exact h _ q
  | .t ts, d, ρ, P, Q, h, q => by
    cases d with
    | tuple ds =>
      unfold bindT at q ⊢
      exact ⟨q.1, bindTs_mono ts ds ρ P Q h q.2⟩
    | _ => unfold bindT at q; exact q.elim
theorem bindTs_mono : ∀ (ts : Tgs) (ds : List D) (ρ : Rho) (P Q : Rho → Prop), (∀ r, P r → Q r) → bindTs ts ds ρ P → bindTs ts ds ρ Q
  | .nil, ds, ρ, P, Q, h, q => by
    unfold bindTs at q ⊢
    exact ⟨q.1, h _ q.2⟩
  | .cons t ts, [], ρ, P, Q, h, q => by unfold bindTs at q; exact q.elim
  | .cons t ts, d :: ds, ρ, P, Q, h, q => by
    unfold bindTs at q ⊢
    exact bindT_mono t d ρ _ _ (fun r hr => bindTs_mono ts ds r P Q h hr) q
end
mutual
theorem bindT_ow : ∀ (t : Tg) (d : D) (ρ : Rho) (P : Rho → Prop), bindT t d ρ P → bindT t d ρ fun ρ' => P ρ' ∧ NewOw (slotsT t) ρ ρ'
  | .n i, d, ρ, P, q => by
    unfold bindT at q ⊢
    refine ⟨q, fun j e ho h => ?_⟩
    rcases get_set h with ⟨_, e2, _⟩ | ⟨hj, h⟩
    · cases e2 <;> cases ho
    · exact ⟨by unfold slotsT; simpa using hj, h⟩
  | .t ts, d, ρ, P, q => by
    cases d with
    | tuple ds =>
      unfold bindT at q ⊢
      unfold slotsT
      exact ⟨q.1, bindTs_ow ts ds ρ P q.2⟩
    | _ => unfold bindT at q; exact q.elim
theorem bindTs_ow : ∀ (ts : Tgs) (ds : List D) (ρ : Rho) (P : Rho → Prop), bindTs ts ds ρ P → bindTs ts ds ρ fun ρ' => P ρ' ∧ NewOw (slotsTs ts) ρ ρ'
  | .nil, ds, ρ, P, q => by
    unfold bindTs at q ⊢
    exact ⟨q.1, q.2, fun i e ho h => ⟨by unfold slotsTs; simp, h⟩⟩
  | .cons t ts, [], ρ, P, q => by unfold bindTs at q; exact q.elim
  | .cons t ts, d :: ds, ρ, P, q => by
    unfold bindTs at q ⊢
    refine bindT_mono t d ρ _ _ (fun r hr => ?_) (bindT_ow t d ρ _ q)
    refine bindTs_mono ts ds r _ _ (fun r2 h2 => ⟨h2.1, ?_⟩) (bindTs_ow ts ds r P hr.1)
    unfold slotsTs
    exact newOw_trans hr.2 h2.2
end
/-- names bound otherwise than to the list keep off it -/
theorem NoSlot.bind {ts : List Nat} {σ σ' : L2.St} {ρ ρ' : Rho} {p : Addr} (n : NoSlot σ ρ p) (o : Only ts σ σ') (w : NewOw ts ρ ρ') : NoSlot σ' ρ' p := fun i d ho h => by
  obtain ⟨h1, h2⟩ := w i d ho h
  rw [o.at_ i h1]
  exact n i d ho h2
theorem wipeR_ow {vs : List Nat} {ρ : Rho} {i : Nat} {e : Sl} (ho : e.isOw = true) : (wipeR ρ vs)[i]? = some (some e) → ρ[i]? = some (some e) ∧ i ∉ vs := by
  induction vs with
  | nil => intro h; exact ⟨h, by simp⟩
  | cons v vs ih =>
    intro h
    unfold wipeR at h
    rcases get_set h with ⟨_, e2, _⟩ | ⟨hj, h⟩
    · cases e2 <;> cases ho
    · obtain ⟨h1, h2⟩ := ih h
      exact ⟨h1, fun m => (List.mem_cons.mp m).elim hj h2⟩
theorem NoSlot.wipe {vs : List Nat} {σ : L2.St} {ρ : Rho} {p : Addr} (n : NoSlot σ ρ p) : NoSlot (L2.wipe σ vs) (wipeR ρ vs) p := fun i d ho h => by
  obtain ⟨h1, h2⟩ := wipeR_ow ho h
  rw [wipe_get, if_neg (fun q => h2 q.1)]
  exact n i d ho h1
theorem NoSlot.none_ {σ : L2.St} {ρ : Rho} {K : PySem.W.Frag} {F : Fm} {O : Addr → Prop} {H : Hp} {p : Addr} (e : EnvR K F O H σ ρ) (hp : H p = none) : NoSlot σ ρ p := fun i d ho h1 h2 => by
  have np : ¬ O p := e.dom.fresh hp
  obtain ⟨w, g1, g2⟩ := e.slot i _ h1
  rw [h2] at g1
  cases g1
  cases d with
  | ow f => obtain ⟨b, e1, g2, _⟩ := g2; cases e1; exact np g2
  | od f => obtain ⟨b, e1, g2, _⟩ := g2; cases e1; exact np g2
  | _ => cases ho
theorem snd_comp2 {own : List (Str × Nat)} {elt : Ex} {tg tg1 : Tg} {it it1 : Ir} {ifs ifs1 : Eo} {eelt etg eiter etg1 eiter1 : Expr} {eifs eifs1 : List Expr} {scope : Scope} {pos : Pos} (hc : X.calm = true) (nd : X.N.Nodup) (hi : PI X etg eiter (tI X.K Γ ec W it)) (ok : BlkOk X.N X.env.scope scope own)
    (hsub : ∀ j ∈ slotsT tg, j ∈ own.map (·.2)) (hsub1 : ∀ j ∈ slotsT tg1, j ∈ own.map (·.2)) (hne : nb elt = true) (hni : nbI it1 = true)
    (hg : ∀ (s : Shared) (H : Hp) (C : Addr) (cl : List (Str × Addr)) (fp : List Addr), PG (X.blk s H scope (compEnvC scope cl C X.env) fp) etg (tG X.K tg)) (ht : ∀ (s : Shared) (H : Hp) (C : Addr) (cl : List (Str × Addr)) (fp : List Addr), PTs (X.blk s H scope (compEnvC scope cl C X.env) fp) eifs (tC X.K Γ ec W0 ifs))
    (hi1 : ∀ (s : Shared) (H : Hp) (C : Addr) (cl : List (Str × Addr)) (fp : List Addr), PI (X.blk s H scope (compEnvC scope cl C X.env) fp) etg1 eiter1 (tI X.K Γ ec W0 it1))
    (hg1 : ∀ (s : Shared) (H : Hp) (C : Addr) (cl : List (Str × Addr)) (fp : List Addr), PG (X.blk s H scope (compEnvC scope cl C X.env) fp) etg1 (tG X.K tg1)) (ht1 : ∀ (s : Shared) (H : Hp) (C : Addr) (cl : List (Str × Addr)) (fp : List Addr), PTs (X.blk s H scope (compEnvC scope cl C X.env) fp) eifs1 (tC X.K Γ ec W0 ifs1))
    (he : ∀ (s : Shared) (H : Hp) (C : Addr) (cl : List (Str × Addr)) (fp : List Addr), PE (X.blk s H scope (compEnvC scope cl C X.env) fp) eelt (tE X.K Γ ec W0 elt)) (hs : ∀ x, foldedSetIterable eiter X.env x = pure x) (hs1 : ∀ env x, foldedSetIterable eiter1 env x = pure x) :
    SE X Γ ec W (.comp2 own elt tg it ifs tg1 it1 ifs1) (.ListComp eelt [⟨etg, eiter, eifs, 0⟩, ⟨etg1, eiter1, eifs1, 0⟩] scope pos) ∧
    ∀ σ H Q, tE X.K Γ ec W (.comp2 own elt tg it ifs tg1 it1 ifs1) σ H Q → tLc2 (tI X.K Γ ec W it) (tG X.K tg) (tC X.K Γ ec W0 ifs) (tI X.K Γ ec W0 it1) (tG X.K tg1) (tC X.K Γ ec W0 ifs1) (tE X.K Γ ec W0 elt) (own.map (·.2)) (slotsT tg1) σ H Q := by
  have main : ∀ σ H Q, tE X.K Γ ec W (.comp2 own elt tg it ifs tg1 it1 ifs1) σ H Q → tLc2 (tI X.K Γ ec W it) (tG X.K tg) (tC X.K Γ ec W0 ifs) (tI X.K Γ ec W0 it1) (tG X.K tg1) (tC X.K Γ ec W0 ifs1) (tE X.K Γ ec W0 elt) (own.map (·.2)) (slotsT tg1) σ H Q := by
    intro σ H Q h
    obtain ⟨F, O, ρ, P, E, e, w, hP, hE⟩ := h
    unfold wpE at w
    refine ⟨F, O, ρ, _, E, e, w, fun ds hfold J H1 s1 wk => ?_, hE⟩
    obtain ⟨G, Y, walk, hGR, hY⟩ := wk.1
    intro D hD
    have e1 := e.stp s1
    have ndO : ¬ O D := e1.dom.fresh hD
    have nO0 : ¬ F.O0 D := fun q => ndO (e1.sub D q)
    have nda : F.dA ≠ some D := e1.ndo nO0
    generalize hvs : own.map (·.2) = vs at *
    generalize hO' : (fun a => O a ∨ a = D) = O'
    have oD : O' D := by rw [← hO']; exact .inr rfl
    have oO : ∀ {b : Addr}, ¬ O' b → ¬ O b := fun {b} n q => n (by rw [← hO']; exact .inl q)
    have oN : ∀ {b : Addr} {o : HO}, H1 b = some o → ¬ O b → ¬ O' b := fun {b o} q m z => by
      rw [← hO'] at z
      rcases z with z | z
      · exact m z
      · rw [z, hD] at q; cases q
    let step1 : List PyData → (List PyData → Prop) → Rho → PyData → List PyData → (List PyData → Prop) → Prop := fun _ _ ρ1 e acc k => bindT tg1 e (wipeR ρ1 (slotsT tg1)) fun ρ2 => wpC Γ ifs1 ρ2 (fun c => if c = true then wpE Γ elt ρ2 (fun y => acc.length < sizeLine ∧ k (acc ++ [y])) nE else k acc) nE
    let step : PyData → List PyData → (List PyData → Prop) → Prop := fun d acc k => bindT tg d (wipeR ρ vs) fun ρ1 => wpC Γ ifs ρ1 (fun c => if c = true then wpI Γ it1 ρ1 (fun es => foldW (step1 es k ρ1) es acc k) nE else k acc) nE
    have hfold : foldW step ds [] fun acc => P (.list acc) := hfold
    -- the state of the outer walk
    let Pv : Nat → Hp → Prop := fun i H' => ∃ xs acc, EnvR X.K F O' H' (L2.wipe σ vs) (wipeR ρ vs) ∧ NoSlot (L2.wipe σ vs) (wipeR ρ vs) D ∧ (∀ b o, F.dA ≠ some b → H1 b = some o → H' b = some o) ∧ H' D = some (.lst xs) ∧ DrA X.K O' H' xs acc ∧ foldW step (ds.drop i) acc fun acc => P (.list acc)
    have later : ∀ {i : Nat} {H2 : Hp}, Pv i H2 → Rc F O H1 O' H2 := fun {i H2} h => by
      obtain ⟨xs, acc, _, _, k, _⟩ := h
      exact ⟨fun b o q m => oN q m, k⟩
    -- a touch of D
    have touchA : ∀ {H4 : Hp} {xs : List V} {zs : List V} {acc : List PyData}, DrA X.K O' H4 zs acc → DrA X.K O' (upd H4 D (.lst xs)) zs acc := fun {H4 xs zs acc} h =>
      DrA.stay (fun _ _ _ n => n) (fun b o m q => by
        rw [upd_ne (fun z => m (by rw [z]; exact oD))]
        exact q) _ _ h
    have touchK : ∀ {H4 : Hp} {xs : List V}, (∀ b o, F.dA ≠ some b → H1 b = some o → H4 b = some o) → ∀ b o, F.dA ≠ some b → H1 b = some o → (upd H4 D (.lst xs)) b = some o := fun {H4 xs} k b o n q => by
      rw [upd_ne (fun z => by rw [z, hD] at q; cases q)]
      exact k b o n q
    refine ⟨fun i m H' => m = ds.length - i ∧ i ≤ ds.length ∧ Pv i H', ⟨ds.length, rfl, Nat.zero_le _, ?_⟩, fun i m H' hW => ?_⟩
    · obtain ⟨g1, g2⟩ := (e1.wipe vs).grow (xs := []) hD
      rw [hO'] at g1
      exact ⟨[], [], g1, g2, fun b o _ q => same_upd hD b o q, upd_same, .nil, by rw [List.drop_zero]; exact hfold⟩
    · obtain ⟨rfl, hi', hv⟩ := hW
      by_cases hlt : i < ds.length
      · refine .inr ⟨walk.goes i H' hlt (hGR _ _ (later hv)), fun H2 => Pv (i + 1) H2, fun H2 p' => ⟨ds.length - (i + 1), by omega, rfl, hlt, p'⟩, fun x H'' y => ?_⟩
        obtain ⟨sm, d, hd, hdr⟩ := hY _ _ i x H'' (later hv) (by obtain ⟨xs, acc, e2, _⟩ := hv; exact e2.dom) hlt (walk.yields i H' x H'' hlt (hGR _ _ (later hv)) y)
        obtain ⟨xs, acc, e2, n2, k2, hx, hA, hf⟩ := hv
        have st2 : Stp X.K F O' H' H'' := Stp.same e2 sm
        have e3 := e2.stp st2
        have edrop : ds.drop i = d :: ds.drop (i + 1) := by
          obtain ⟨h1, h2⟩ := List.getElem?_eq_some_iff.mp hd
          rw [List.drop_eq_getElem_cons h1, h2]
        rw [edrop] at hf
        unfold foldW at hf
        have hf' : bindT tg d (wipeR ρ vs) fun ρ1 => wpC Γ ifs ρ1 (fun c => if c = true then wpI Γ it1 ρ1 (fun es => foldW (step1 es (fun _ => True) ρ1) es acc (fun acc' => foldW step (ds.drop (i + 1)) acc' fun acc => P (.list acc))) nE else foldW step (ds.drop (i + 1)) acc fun acc => P (.list acc)) nE := hf
        refine ⟨F, O', wipeR ρ vs, d, _, e3, hdr, bindT_ow tg d _ _ hf', fun ρ1 h1 σ1 on e4 => ?_⟩
        have nS1 : NoSlot σ1 ρ1 D := n2.bind on h1.2
        refine ⟨(wipe_only on hsub).trans wipe_idem, F, O', ρ1, _, nE, e4, h1.1, fun b hb H3 s3 => ?_, fun x hx => hx.elim⟩
        have sA := st2.trans s3
        have hx3 : H3 D = some (.lst xs) := s3.keep _ _ nda (sm _ _ hx)
        have hA3 : DrA X.K O' H3 xs acc := (hA.same sm).stp e3 s3
        have k3 : ∀ b o, F.dA ≠ some b → H1 b = some o → H3 b = some o := fun b o n q => s3.keep b o n (sm b o (k2 b o n q))
        cases b with
        | false =>
          dsimp only at hb ⊢
          rw [if_neg Bool.false_ne_true] at hb ⊢
          exact ⟨xs, acc, e3.stp s3, n2, k3, hx3, hA3, hb⟩
        | true =>
          dsimp only at hb ⊢
          rw [if_pos rfl] at hb ⊢
          refine ⟨F, O', ρ1, _, nE, e4.stp s3, hb, fun es hes J1 H4 s4 wk1 => ?_, fun x hx => hx.elim⟩
          obtain ⟨G1, Y1, walk1, hGR1, hY1⟩ := wk1.2 hni
          let Pw : Nat → Hp → Prop := fun j H5 => ∃ xs acc, EnvR X.K F O' H5 (L2.wipe σ vs) (wipeR ρ vs) ∧ EnvR X.K F O' H5 σ1 ρ1 ∧ (∀ b o, F.dA ≠ some b → H1 b = some o → H5 b = some o) ∧ Rf O' H4 O' H5 ∧ H5 D = some (.lst xs) ∧ DrA X.K O' H5 xs acc ∧
            foldW (step1 es (fun _ => True) ρ1) (es.drop j) acc (fun acc' => foldW step (ds.drop (i + 1)) acc' fun acc => P (.list acc))
          refine ⟨fun j m H5 => m = es.length - j ∧ j ≤ es.length ∧ Pw j H5, ⟨es.length, rfl, Nat.zero_le _, ?_⟩, fun j m H5 hW => ?_⟩
          · exact ⟨xs, acc, (e3.stp s3).stp s4, (e4.stp s3).stp s4, fun b o n q => s4.keep b o n (k3 b o n q), fun b o n q => ⟨n, q⟩, s4.keep _ _ nda hx3, hA3.stp (e3.stp s3) s4, by rw [List.drop_zero]; exact hes⟩
          · obtain ⟨rfl, hj', ys, bcc, f1, f2, f3, f4, f5, f6, f7⟩ := hW
            by_cases hlt1 : j < es.length
            · refine .inr ⟨walk1.goes j H5 hlt1 (hGR1 _ _ f4), fun H6 => Pw (j + 1) H6, fun H6 p' => ⟨es.length - (j + 1), by omega, rfl, hlt1, p'⟩, fun x1 H6 y1 => ?_⟩
              obtain ⟨sm1, d1, hd1, hdr1⟩ := hY1 _ _ j x1 H6 f4 f1.dom hlt1 (walk1.yields j H5 x1 H6 hlt1 (hGR1 _ _ f4) y1)
              have st5 : Stp X.K F O' H5 H6 := Stp.same f1 sm1
              have edrop1 : es.drop j = d1 :: es.drop (j + 1) := by
                obtain ⟨h1, h2⟩ := List.getElem?_eq_some_iff.mp hd1
                rw [List.drop_eq_getElem_cons h1, h2]
              rw [edrop1] at f7
              unfold foldW at f7
              have f7' : bindT tg1 d1 (wipeR ρ1 (slotsT tg1)) fun ρ2 => wpC Γ ifs1 ρ2 (fun c => if c = true then wpE Γ elt ρ2 (fun y => bcc.length < sizeLine ∧ foldW (step1 es (fun _ => True) ρ1) (es.drop (j + 1)) (bcc ++ [y]) (fun acc' => foldW step (ds.drop (i + 1)) acc' fun acc => P (.list acc))) nE else foldW (step1 es (fun _ => True) ρ1) (es.drop (j + 1)) bcc (fun acc' => foldW step (ds.drop (i + 1)) acc' fun acc => P (.list acc))) nE := f7
              -- what the next turn wants from a later heap
              have stay : ∀ {H8 : Hp}, Stp X.K F O' H6 H8 → EnvR X.K F O' H8 (L2.wipe σ vs) (wipeR ρ vs) ∧ EnvR X.K F O' H8 σ1 ρ1 ∧ (∀ b o, F.dA ≠ some b → H1 b = some o → H8 b = some o) ∧ Rf O' H4 O' H8 ∧ H8 D = some (.lst ys) ∧ DrA X.K O' H8 ys bcc := fun {H8} s8 =>
                ⟨(f1.stp st5).stp s8, (f2.stp st5).stp s8, fun b o n q => s8.keep b o n (sm1 b o (f3 b o n q)), fun b o n q => ⟨n, s8.keep b o (f1.nd n) (sm1 b o (f4 b o n q).2)⟩, s8.keep _ _ nda (sm1 _ _ f5), (f6.same sm1).stp (f1.stp st5) s8⟩
              refine ⟨F, O', wipeR ρ1 (slotsT tg1), d1, _, (f2.stp st5).wipe (slotsT tg1), hdr1, f7', fun ρ2 h2 σ2 on2 e5 => ?_⟩
              refine ⟨(wipe_only on2 fun _ h => h).trans wipe_idem, F, O', ρ2, _, nE, e5, h2, fun c hc' H7 s7 => ?_, fun x hx => hx.elim⟩
              cases c with
              | true =>
                dsimp only at hc' ⊢
                rw [if_pos rfl] at hc' ⊢
                refine ⟨F, O', ρ2, _, nE, e5.stp s7, hc', fun yd hyd yv H8 s8 r8 => ?_, fun x hx => hx.elim⟩
                obtain ⟨g1, g2, g3, g4, g5, g6⟩ := stay (s7.trans s8)
                have nd2 : NoSlot σ1 ρ1 D := nS1
                refine ⟨ys, g5, by rw [g6.length]; exact hyd.1, ys ++ [yv], bcc ++ [yd], g1.touch n2 oD nO0, g2.touch nd2 oD nO0, touchK g3, fun b o n q => ⟨n, ?_⟩, upd_same, touchA (g6.append (.cons (r8.n hne) .nil)), hyd.2⟩
                rw [upd_ne (fun z => n (by rw [z]; exact oD))]
                exact (g4 b o n q).2
              | false =>
                dsimp only at hc' ⊢
                rw [if_neg Bool.false_ne_true] at hc' ⊢
                obtain ⟨g1, g2, g3, g4, g5, g6⟩ := stay s7
                exact ⟨ys, bcc, g1, g2, g3, g4, g5, g6, hc'⟩
            · have ej : j = es.length := by omega
              subst ej
              refine .inl ⟨walk1.stops H5 (hGR1 _ _ f4), ?_⟩
              rw [List.drop_length] at f7
              exact ⟨ys, bcc, f1, n2, f3, f5, f6, f7⟩
      · have ei : i = ds.length := by omega
        subst ei
        refine .inl ⟨walk.stops H' (hGR _ _ (later hv)), ?_⟩
        obtain ⟨xs, acc, e2, n2, k2, hx, hA, hf⟩ := hv
        rw [List.drop_length] at hf
        have hA' : DrA X.K O H' xs acc := DrA.stay (fun _ _ _ n q => n (by rw [← hO']; exact .inl q)) (fun _ _ _ q => q) _ _ hA
        have hdr : Dr X.K O H' (.ref D) (.list acc) := .lst hx ndO hA'
        refine hP _ hf _ H' ⟨fun b o n q => k2 b o n (s1.keep b o n q), fun a ha => ?_⟩ ⟨.inl hdr, fun _ => hdr, fun _ ds' eq => ?_⟩
        · obtain ⟨h1, cells, i', cur, seed, q1, q2, q3, q4⟩ := e2.drw a ha
          exact ⟨cells, i', cur, seed, q1, q2, oO q3, q4⟩
        · cases eq
          exact ⟨D, xs, rfl, s1.free e hD, hx, by rw [hO']; exact hA⟩
  exact ⟨PE.conseq (pe_lc2 hc nd hi ok hsub1 hg ht hi1 hg1 ht1 he hs hs1) main, main⟩
/-! len(set(numbers)) -/
def tSetLen (K : PySem.W.Frag) (ta : TE) : TE := fun σ H Q => ta σ H fun x H1 => ∃ (l : Addr) (ns : List Int), x = .ref l ∧ SqL K H1 l (ns.map V.int) ∧ ns.length ≤ 4000 ∧ Q (.int (dstI ns)) H1
theorem pe_setLen {a : Expr} {ta : TE} {p p2 q pos : Pos} (hg : Gl X "len") (hm : X.mg "len" = none) (hg2 : Gl X "set") (hm2 : X.mg "set" = none) (ha : PE X a ta) (hc : X.calm = true)
    (na : starEach [a] X.env = (false, eval a X.env) :: starEach [] X.env) : PE X (.Call (.Name "len" p) [.Call (.Name "set" p2) [a] [] q] [] pos) (tSetLen X.K ta) := by
  refine ⟨fun pins s σ H Q I h => ?_⟩
  refine Call_ (ld_blt I hg hm boot_len (PyProof.Rows.callWith_builtin1 (PyProof.Rows.args_cons ?_ rfl) rfl rfl))
  refine Call_ (ld_blt I hg2 hm2 boot_set (PyProof.Rows.callWith_type1 (PyProof.Rows.args_cons (thn (ha.run pins s σ H _ I h) fun v s1 w1 => PyProof.Rows.args_nil ?_) na) na rfl))
  obtain ⟨x, H1, I1, r1, l, ns, rfl, hq, hl, q1⟩ := w1
  cases r1
  obtain ⟨its, r, pl, hz⟩ := I1.list hq
  have lenI : its.toArray.size = ns.length := by rw [List.size_toArray, ← r.length, List.length_map]
  have hInts : PyProof.Rows.IntsAre its.toArray.toList ns := by simpa using RZ.intsAre_vals r
  refine call_set_list (I1.ok.hd hc) pl.isList hInts (by rw [lenI]; unfold scanBound; omega) fun h' tk hS hk => PyProof.Rows.args_nil ?_
  rw [lenI] at hS
  have le : (PyProof.Rows.firstMet (fun i => ns.getD i 0) ns.length).length ≤ ns.length := PyProof.Rows.firstMet_length_le _ _
  obtain ⟨o, es, ep, t, ho, hex, hd, _, _, _, hf, hn⟩ := hS
  have I2 : Inv X pins σ H1 { s1 with heap := h', toks := tk } := I1.kept fun b o e => hk b o (Heap.lt_size e) e
  refine call_len_set ho hex hd hf (by rw [hn] <;> omega) ⟨.int (dstI ns), H1, I2.tok _, ⟨_, by rw [hn]; rfl⟩, q1⟩
theorem snd_setlen {a : Ex} {ea : Expr} {p p2 q pos : Pos} (hg : Gl X "len") (hm : X.mg "len" = none) (hg2 : Gl X "set") (hm2 : X.mg "set" = none) (ha : SE X Γ ec W a ea) (hc : X.calm = true) (hs : starred ea = false) :
    SE X Γ ec W (.setlen a) (.Call (.Name "len" p) [.Call (.Name "set" p2) [ea] [] q] [] pos) := by
  refine PE.conseq (pe_setLen hg hm hg2 hm2 ha hc (star_cons hs)) fun σ H Q h => ?_
  obtain ⟨F, O, ρ, P, E, e, w, hP, hE⟩ := h
  unfold wpE at w
  refine ⟨F, O, ρ, _, E, e, w, fun d hd v H1 s1 r1 => ?_, hE⟩
  unfold setlenW at hd
  split at hd
  · obtain ⟨ns, en, hd⟩ := optQ_iff hd
    obtain ⟨b, xs, rfl, h2, h3⟩ := r1.b.lst
    rw [intsOf_eq en] at h3
    rw [h3.ints] at h2
    exact ⟨b, ns, rfl, SqL.of h2, hd.1, hP _ hd.2 _ _ s1 ⟨.inl (.int _), fun _ => .int _, fun z => by simp [frs] at z⟩⟩
  · exact hd.elim
end
end DL

set_option Elab.async false
set_option linter.all false
set_option maxRecDepth 100000
set_option maxHeartbeats 8000000
namespace DL
open PySem PySem.Spec PyProof.Rows L2

/-! ### every expression of the grammar -/
structure At (G : Glb) (S : Sx) (X : Cx) : Prop where
  ok : XOk G X
  N : X.N = S.N
  sc : X.env.scope = S.sc
  fn : X.fn = S.fn
section
variable {G : Glb} {S : Sx} {X : Cx} {W : WX}
theorem At.vis (h : At G S X) {x : Str} (v : visB S.sc x = true) : Vis X.env.scope x := by
  rw [h.sc]
  unfold visB at v
  split at v
  · rename_i q; exact .inl q
  · rename_i q; exact .inr (.inl q)
  · rename_i q; exact .inr (.inr q)
  · cases v
theorem At.gl (h : At G S X) {x : Str} (v : glB S.sc x = true) : Gl X x ∧ (x == ("__debug__" : Str)) = false := by
  unfold glB at v
  split at v
  · rename_i q
    refine ⟨?_, by simpa using v⟩
    show X.env.scope.names.lookup x = _
    rw [h.sc]
    exact q
  · cases v
theorem nm_of {x : Str} (h : nmB x = true) : (x == ("__debug__" : Str)) = false ∧ (x == ("__classdict__" : Str)) = false := by
  unfold nmB at h
  rw [Bool.and_eq_true] at h
  exact ⟨by simpa using h.1, by simpa using h.2⟩
theorem At.blk (h : At G S X) (s : Shared) (H : Hp) (scope : Scope) (C : Addr) (cl : List (Str × Addr)) (fp : List Addr) : At G (blkS S scope) (X.blk s H scope (compEnvC scope cl C X.env) fp) where
  ok := ⟨h.ok.prog, h.ok.w, h.ok.K, h.ok.mg, h.ok.base, h.ok.calm, h.ok.room, h.ok.nd⟩
  N := h.N
  sc := by
    show relS scope X.env.scope = relS scope S.sc
    rw [h.sc]
  fn := rfl
theorem mg_bi (g : GOk G) (h : At G S X) (b : Bi) (hb : b ≠ .gcd) : X.mg b.nm = none := by rw [h.ok.mg]; exact g.bi b hb
theorem snd_bi {Γ : Gam} {ec : Str → Value} (g : GOk G) (h : At G S X) (b : Bi) {es : Exs} {e0 : Expr} {eas : List Expr} {p pos : Pos} (hgl : glB S.sc b.nm = true) (ha : SA X Γ ec W es (e0 :: eas)) (hst : (e0 :: eas).all (fun e => !starred e) = true) :
    SE X Γ ec W (.bi b es) (.Call (.Name b.nm p) (e0 :: eas) [] pos) := by
  obtain ⟨hg, hdb⟩ := h.gl hgl
  have hu := h.ok.hu
  have hc := h.ok.calm
  cases b with
  | len => exact snd_callB rfl cr_dLen hg (mg_bi g h .len (by decide)) PySem.boot_len ha hst (by decide) hdb
  | tuple => exact snd_callT rfl cr_dTuple hg (mg_bi g h .tuple (by decide)) PyProof.Rows.boot_tuple ha hst (by decide) hdb
  | list => exact snd_callT rfl cr_dList hg (mg_bi g h .list (by decide)) PyProof.Rows.boot_list ha hst (by decide) hdb
  | sum => exact snd_callB rfl (cr_dSum hc) hg (mg_bi g h .sum (by decide)) PyProof.Rows.boot_sum ha hst (by decide) hdb
  | any => exact snd_callB rfl (cr_dAny hc) hg (mg_bi g h .any (by decide)) PyProof.Rows.boot_any ha hst (by decide) hdb
  | all => exact snd_callB rfl (cr_dAll hc) hg (mg_bi g h .all (by decide)) PyProof.Rows.boot_all ha hst (by decide) hdb
  | abs => exact snd_callB rfl cr_dAbs hg (mg_bi g h .abs (by decide)) PyProof.Rows.boot_abs ha hst (by decide) hdb
  | min => exact snd_callB rfl (cr_dMin2 hc) hg (mg_bi g h .min (by decide)) PyProof.Rows.boot_min ha hst (by decide) hdb
  | max => exact snd_callB rfl (cr_dMax2 hc) hg (mg_bi g h .max (by decide)) PyProof.Rows.boot_max ha hst (by decide) hdb
  | int => exact snd_callT rfl cr_dInt hg (mg_bi g h .int (by decide)) PyProof.Rows.boot_int ha hst (by decide) hdb
  | str => exact snd_callT rfl cr_dStr hg (mg_bi g h .str (by decide)) PyProof.Rows.boot_str ha hst (by decide) hdb
  | gcd => exact snd_gcd hg (by rw [h.ok.mg]; exact g.gcd) ha hst hdb
  | sorted => exact snd_callB rfl (cr_dSorted hu) hg (mg_bi g h .sorted (by decide)) PyProof.Rows.boot_sorted ha hst (by decide) hdb
theorem inFs_of {Γ : Gam} {f : Str} (h : inFs Γ f = true) : f ∈ Γ.fs := by
  unfold inFs at h
  rw [List.any_eq_true] at h
  obtain ⟨x, h1, h2⟩ := h
  have e := of_decide_eq_true h2
  subst e
  exact h1
theorem lastMarks_of {op op2 : CmpOp} {b c : Expr} (h : isSet c = false) : lastMarks [op, op2] [b, c] = false := by
  show behindInMarks op2 c = false
  exact nomarkS h
/-- a test's forms -/
structure SndE (X : Cx) (Γ : Gam) (ec : Str → Value) (W : WX) (a : Ex) (e : Expr) : Prop where
  pe : SE X Γ ec W a e
  pt : tstB e = true → PT X e (tT X.K Γ ec W a)
  pw : ∀ op vs pos, e = .BoolOp op vs pos → tstB e = true → PW X e (tT X.K Γ ec W a)
theorem SndE.plain {Γ : Gam} {ec : Str → Value} {a : Ex} {e : Expr} (h : SE X Γ ec W a e) (p : plainT e = true) : SndE X Γ ec W a e :=
  ⟨h, fun _ => snt_plain h (plainTe p), fun op vs pos q => by subst q; simp [plainT] at p⟩
theorem At.tgt (h : At G S X) {t : Tg} {e : Expr} (q : mtT S t e = true) : PG X e (tG X.K t) := sndT h.N h.sc h.fn h.ok.calm h.ok.nd t e q
theorem mtT_tup {S : Sx} {tg : Tg} {t : Expr} (h : mtT S tg t = true) (ht : isTup tg = true) : ∃ elts kk tp, t = .Tuple elts kk tp := by
  cases tg with
  | n i => simp [isTup] at ht
  | t ts =>
    cases t with
    | Tuple es k p => exact ⟨es, k, p, rfl⟩
    | _ => simp [mtT] at h
theorem mtI_set {Γ : Gam} {tup : Bool} {it : Ir} {e : Expr} (h : mtI Γ S tup it e = true) : isSet e = false := by
  cases it with
  | seq a => exact mtE_set (by simpa only [mtI] using h)
  | _ =>
    cases e with
    | Set v k p => simp [mtI] at h
    | _ => rfl
theorem snc_no {Γ : Gam} {ec : Str → Value} : PTs X [] (tC X.K Γ ec W .no) := ⟨fun pins s σ H Q I h => pts_nil.run pins s σ H Q I (by
  obtain ⟨F, O, ρ, P, E, e, w, hP, hE⟩ := h
  exact hP true w H (Stp.refl e))⟩
theorem snc_so {Γ : Gam} {ec : Str → Value} {a : Ex} {c : Expr} (ht : PT X c (tT X.K Γ ec W a)) : PTs X [c] (tC X.K Γ ec W (.so a)) := ⟨fun pins s σ H Q I h => (pts_one ht).run pins s σ H Q I (by
  obtain ⟨F, O, ρ, P, E, e, w, hP, hE⟩ := h
  unfold wpC at w
  refine ⟨F, O, ρ, _, E, e, w, fun d hd => ?_, hE⟩
  obtain ⟨c, hc, q⟩ := optQ_iff hd
  exact ⟨c, hc, fun H' s' => hP c q H' s'⟩)⟩
theorem own_of {vs : List (Str × Nat)} {ts : List Nat} (h : (ts.all fun j => (vs.map (·.2)).contains j) = true) : ∀ j ∈ ts, j ∈ vs.map (·.2) := fun j hj => by
  have := List.all_eq_true.mp h j hj
  simpa using this
end
set_option maxHeartbeats 32000000 in
mutual
theorem sndE {G : Glb} (g : GOk G) : ∀ (a : Ex) (e : Expr) (X : Cx) (S : Sx) (W : WX), At G S X → Takes X W → mtE G.Γ S a e = true → SndE X G.Γ G.ec W a e
  | .v i, e, X, S, W, at_, tk, h => by
    cases e with
    | Name x p =>
      simp only [mtE, Bool.and_eq_true, decide_eq_true_eq] at h
      obtain ⟨h1, h2⟩ := nm_of h.2
      exact .plain (snd_v (by rw [at_.N]; exact h.1.1) (at_.vis h.1.2) h1 h2) rfl
    | _ => simp [mtE] at h
  | .b i, e, X, S, W, at_, tk, h => by
    cases e with
    | Name x p =>
      simp only [mtE, Bool.and_eq_true, decide_eq_true_eq] at h
      obtain ⟨h1, h2⟩ := nm_of h.2
      exact .plain (snd_b (by rw [at_.N]; exact h.1.1) (at_.vis h.1.2) h1 h2) rfl
    | _ => simp [mtE] at h
  | .int i, e, X, S, W, at_, tk, h => by
    cases e with
    | Constant c k p =>
      cases c with
      | int j => simp only [mtE, decide_eq_true_eq] at h; subst h; exact .plain snd_int rfl
      | _ => simp [mtE] at h
    | _ => simp [mtE] at h
  | .bl i, e, X, S, W, at_, tk, h => by
    cases e with
    | Constant c k p =>
      cases c with
      | bool j => simp only [mtE, beq_iff_eq] at h; subst h; exact .plain snd_bl rfl
      | _ => simp [mtE] at h
    | _ => simp [mtE] at h
  | .non, e, X, S, W, at_, tk, h => by
    cases e with
    | Constant c k p =>
      cases c with
      | none => exact .plain snd_non rfl
      | _ => simp [mtE] at h
    | _ => simp [mtE] at h
  | .str i, e, X, S, W, at_, tk, h => by
    cases e with
    | Constant c k p =>
      cases c with
      | str j => simp only [mtE, decide_eq_true_eq] at h; subst h; exact .plain snd_str rfl
      | _ => simp [mtE] at h
    | _ => simp [mtE] at h
  | .g y, e, X, S, W, at_, tk, h => by
    cases e with
    | Name x p =>
      simp only [mtE, Bool.and_eq_true, decide_eq_true_eq] at h
      obtain ⟨⟨rfl, h1⟩, h2⟩ := h
      obtain ⟨d, hk⟩ := Option.isSome_iff_exists.mp h1
      obtain ⟨hg, hdb⟩ := at_.gl h2
      obtain ⟨u, v, q1, q2, q3⟩ := g.gl x d hk
      exact .plain (snd_g hk hg (by rw [at_.ok.mg]; exact q1) q2 (by rw [at_.ok.K]; exact q3) hdb) rfl
    | _ => simp [mtE] at h
  | .bin op a b, e, X, S, W, at_, tk, h => by
    cases e with
    | BinOp ea op' eb p =>
      simp only [mtE, Bool.and_eq_true, decide_eq_true_eq] at h
      obtain ⟨⟨rfl, h1⟩, h2⟩ := h
      exact .plain (snd_bin (sndE g a ea X S W at_ tk h1).pe (sndE g b eb X S W at_ tk h2).pe) rfl
    | _ => simp [mtE] at h
  | .neg a, e, X, S, W, at_, tk, h => by
    cases e with
    | UnaryOp op ea p =>
      cases op with
      | USub => exact .plain (snd_neg (sndE g a ea X S W at_ tk (by simpa only [mtE] using h)).pe) rfl
      | _ => simp [mtE] at h
    | _ => simp [mtE] at h
  | .cmp op a b, e, X, S, W, at_, tk, h => by
    cases e with
    | Compare ea ops ebs p =>
      match ops, ebs, h with
      | [op'], [eb], h =>
        simp only [mtE, Bool.and_eq_true, decide_eq_true_eq] at h
        obtain ⟨⟨rfl, h1⟩, h2⟩ := h
        have i1 := sndE g a ea X S W at_ tk h1
        have i2 := sndE g b eb X S W at_ tk h2
        exact ⟨snd_cmp at_.ok.hu i1.pe i2.pe (nomarkS (mtE_set h2)), fun _ => snt_cmp at_.ok.hu i1.pe i2.pe (nomarkS (mtE_set h2)), fun _ _ _ q => by cases q⟩
      | [], _, h => simp [mtE] at h
      | [_], [], h => simp [mtE] at h
      | [_], _ :: _ :: _, h => simp [mtE] at h
      | _ :: _ :: _, _, h => simp [mtE] at h
    | _ => simp [mtE] at h
  | .chain op op2 a b c, e, X, S, W, at_, tk, h => by
    cases e with
    | Compare ea ops ebs p =>
      match ops, ebs, h with
      | [op', op2'], [eb, ec], h =>
        simp only [mtE, Bool.and_eq_true, decide_eq_true_eq] at h
        obtain ⟨⟨⟨⟨rfl, rfl⟩, h1⟩, h2⟩, h3⟩ := h
        have i1 := sndE g a ea X S W at_ tk h1
        have i2 := sndE g b eb X S W at_ tk h2
        have i3 := sndE g c ec X S W at_ tk h3
        exact ⟨snd_chain at_.ok.hu i1.pe i2.pe i3.pe (lastMarks_of (mtE_set h3)), fun _ => snt_chain at_.ok.hu i1.pe i2.pe i3.pe (lastMarks_of (mtE_set h3)), fun _ _ _ q => by cases q⟩
      | [], _, h => simp [mtE] at h
      | [_], _, h => simp [mtE] at h
      | [_, _], [], h => simp [mtE] at h
      | [_, _], [_], h => simp [mtE] at h
      | [_, _], _ :: _ :: _ :: _, h => simp [mtE] at h
      | _ :: _ :: _ :: _, _, h => simp [mtE] at h
    | _ => simp [mtE] at h
  | .and a b, e, X, S, W, at_, tk, h => by
    cases e with
    | BoolOp op vs p =>
      match op, vs, h with
      | .And, ea :: eb :: r, h =>
        simp only [mtE, Bool.and_eq_true] at h
        have i1 := sndE g a ea X S W at_ tk h.1
        cases r with
        | nil =>
          have i2 := sndE g b eb X S W at_ tk h.2
          have key : tstB (.BoolOp .And [ea, eb] p) = true → PW X (.BoolOp .And [ea, eb] p) (tT X.K G.Γ G.ec W (.and a b)) := fun q => by
            simp only [tstB, tstsB, Bool.and_eq_true] at q
            exact PW.conseq (pw_and (i1.pt q.1) (pw_and1 (i2.pt q.2.1))) fun σ H Q z => tT_and z
          exact ⟨snd_and i1.pe (snd_one i2.pe), fun q => (key q).pt, fun op' vs' p' q1 q2 => key q2⟩
        | cons c r' =>
          have i2 := sndE g b (.BoolOp .And (eb :: c :: r') p) X S W at_ tk h.2
          have key : tstB (.BoolOp .And (ea :: eb :: c :: r') p) = true → PW X (.BoolOp .And (ea :: eb :: c :: r') p) (tT X.K G.Γ G.ec W (.and a b)) := fun q => by
            have q' := q
            simp only [tstB, tstsB, Bool.and_eq_true] at q
            exact PW.conseq (pw_and (i1.pt q.1) (i2.pw _ _ _ rfl (by simp only [tstB, tstsB, Bool.and_eq_true]; exact q.2))) fun σ H Q z => tT_and z
          exact ⟨snd_and i1.pe i2.pe, fun q => (key q).pt, fun op' vs' p' q1 q2 => key q2⟩
      | .And, [], h => simp [mtE] at h
      | .And, [_], h => simp [mtE] at h
      | .Or, _, h => simp [mtE] at h
    | _ => simp [mtE] at h
  | .or a b, e, X, S, W, at_, tk, h => by
    cases e with
    | BoolOp op vs p =>
      match op, vs, h with
      | .Or, ea :: eb :: r, h =>
        simp only [mtE, Bool.and_eq_true] at h
        have i1 := sndE g a ea X S W at_ tk h.1
        cases r with
        | nil =>
          have i2 := sndE g b eb X S W at_ tk h.2
          have key : tstB (.BoolOp .Or [ea, eb] p) = true → PW X (.BoolOp .Or [ea, eb] p) (tT X.K G.Γ G.ec W (.or a b)) := fun q => by
            simp only [tstB, tstsB, Bool.and_eq_true] at q
            exact PW.conseq (pw_or (i1.pt q.1) (pw_or1 (i2.pt q.2.1))) fun σ H Q z => tT_or z
          exact ⟨snd_or i1.pe (snd_one i2.pe), fun q => (key q).pt, fun op' vs' p' q1 q2 => key q2⟩
        | cons c r' =>
          have i2 := sndE g b (.BoolOp .Or (eb :: c :: r') p) X S W at_ tk h.2
          have key : tstB (.BoolOp .Or (ea :: eb :: c :: r') p) = true → PW X (.BoolOp .Or (ea :: eb :: c :: r') p) (tT X.K G.Γ G.ec W (.or a b)) := fun q => by
            have q' := q
            simp only [tstB, tstsB, Bool.and_eq_true] at q
            exact PW.conseq (pw_or (i1.pt q.1) (i2.pw _ _ _ rfl (by simp only [tstB, tstsB, Bool.and_eq_true]; exact q.2))) fun σ H Q z => tT_or z
          exact ⟨snd_or i1.pe i2.pe, fun q => (key q).pt, fun op' vs' p' q1 q2 => key q2⟩
      | .Or, [], h => simp [mtE] at h
      | .Or, [_], h => simp [mtE] at h
      | .And, _, h => simp [mtE] at h
    | _ => simp [mtE] at h
  | .not a, e, X, S, W, at_, tk, h => by
    cases e with
    | UnaryOp op ea p =>
      cases op with
      | Not =>
        have i1 := sndE g a ea X S W at_ tk (by simpa only [mtE] using h)
        exact ⟨snd_not i1.pe, fun q => snt_not (i1.pt (by simpa only [tstB] using q)), fun _ _ _ q => by cases q⟩
      | _ => simp [mtE] at h
    | _ => simp [mtE] at h
  | .ite t a b, e, X, S, W, at_, tk, h => by
    cases e with
    | IfExp et ea eb p =>
      simp only [mtE, Bool.and_eq_true] at h
      obtain ⟨⟨⟨h1, h2⟩, h3⟩, h4⟩ := h
      exact ⟨snd_ite ((sndE g t et X S W at_ tk h1).pt h2) (sndE g a ea X S W at_ tk h3).pe (sndE g b eb X S W at_ tk h4).pe, fun q => by simp [tstB] at q, fun _ _ _ q => by cases q⟩
    | _ => simp [mtE] at h
  | .tup es, e, X, S, W, at_, tk, h => by
    cases e with
    | Tuple as k p =>
      simp only [mtE, Bool.and_eq_true, decide_eq_true_eq] at h
      exact .plain (snd_tup (sndX g es as X S W at_ tk h.1.1.1) h.1.1.2 h.2) rfl
    | _ => simp [mtE] at h
  | .lst es, e, X, S, W, at_, tk, h => by
    cases e with
    | List as p =>
      simp only [mtE, Bool.and_eq_true, decide_eq_true_eq] at h
      exact .plain (snd_lst (sndX g es as X S W at_ tk h.1.1.1) h.1.1.2 h.2) rfl
    | _ => simp [mtE] at h
  | .sub a i, e, X, S, W, at_, tk, h => by
    cases e with
    | Subscript ea ei p =>
      simp only [mtE, Bool.and_eq_true] at h
      exact .plain (snd_sub (sndE g a ea X S W at_ tk h.1).pe (sndE g i ei X S W at_ tk h.2).pe (plainIx (mtE_slice h.2))) rfl
    | _ => simp [mtE] at h
  | .cut a lo hi, e, X, S, W, at_, tk, h => by
    cases e with
    | Subscript ea ei p =>
      cases ei with
      | Slice l u st p2 =>
        cases st with
        | none =>
          simp only [mtE, Bool.and_eq_true] at h
          exact .plain (snd_cut (sndE g a ea X S W at_ tk h.1.1).pe (sndO g lo l X S W at_ tk h.1.2) (sndO g hi u X S W at_ tk h.2)) rfl
        | some _ => simp [mtE] at h
      | _ => simp [mtE] at h
    | _ => simp [mtE] at h
  | .bi b es, e, X, S, W, at_, tk, h => by
    cases e with
    | Call f as kw p =>
      cases f with
      | Name x p2 =>
        cases kw with
        | nil =>
          simp only [mtE, Bool.and_eq_true, decide_eq_true_eq] at h
          obtain ⟨⟨⟨⟨rfl, h2⟩, h3⟩, h4⟩, h5⟩ := h
          obtain ⟨s1, s2⟩ := mtX_star h3
          cases as with
          | nil => rw [List.length_nil] at s2; omega
          | cons e0 eas => exact .plain (snd_bi g at_ b h2 (sndX g es _ X S W at_ tk h3) s1) rfl
        | cons _ _ => simp [mtE] at h
      | _ => simp [mtE] at h
    | _ => simp [mtE] at h
  | .isi a T, e, X, S, W, at_, tk, h => by
    cases e with
    | Call f as kw p =>
      cases f with
      | Name x p2 =>
        cases as with
        | nil => simp [mtE] at h
        | cons ea r =>
          cases r with
          | nil => simp [mtE] at h
          | cons yb r2 =>
            cases yb with
            | Name y p3 =>
              cases r2 with
              | cons _ _ => simp [mtE] at h
              | nil =>
                cases kw with
                | cons _ _ => simp [mtE] at h
                | nil =>
                  simp only [mtE, Bool.and_eq_true, decide_eq_true_eq, Bool.or_eq_true, beq_iff_eq] at h
                  obtain ⟨⟨⟨⟨rfl, h2⟩, h3⟩, h4⟩, h5⟩ := h
                  obtain ⟨hg, _⟩ := at_.gl h2
                  obtain ⟨hgy, hdy⟩ := at_.gl h4
                  have i1 := sndE g a ea X S W at_ tk h3
                  have hm : X.mg "isinstance" = none := by rw [at_.ok.mg]; exact g.isi
                  have hm2 : ∀ b : Bi, b ≠ .gcd → X.mg b.nm = none := mg_bi g at_
                  rcases h5 with (((⟨rfl, rfl⟩ | ⟨rfl, rfl⟩) | ⟨rfl, rfl⟩) | ⟨rfl, rfl⟩) | ⟨rfl, rfl⟩
                  · exact .plain (snd_isi (by simp) i1.pe (mtE_star h3) hg hm hgy (hm2 .int (by decide)) PyProof.Rows.boot_int (by decide) hdy) rfl
                  · exact .plain (snd_isi (by simp) i1.pe (mtE_star h3) hg hm hgy (by rw [at_.ok.mg]; exact g.bool) PyProof.Rows.boot_bool (by decide) hdy) rfl
                  · exact .plain (snd_isi (by simp) i1.pe (mtE_star h3) hg hm hgy (hm2 .str (by decide)) PyProof.Rows.boot_str (by decide) hdy) rfl
                  · exact .plain (snd_isi (by simp) i1.pe (mtE_star h3) hg hm hgy (hm2 .tuple (by decide)) PyProof.Rows.boot_tuple (by decide) hdy) rfl
                  · exact .plain (snd_isi (by simp) i1.pe (mtE_star h3) hg hm hgy (hm2 .list (by decide)) PyProof.Rows.boot_list (by decide) hdy) rfl
            | _ => simp [mtE] at h
      | _ => simp [mtE] at h
    | _ => simp [mtE] at h
  | .call f es, e, X, S, W, at_, tk, h => by
    cases e with
    | Call fx as kw p =>
      cases fx with
      | Name x p2 =>
        cases kw with
        | nil =>
          simp only [mtE, Bool.and_eq_true, decide_eq_true_eq] at h
          obtain ⟨⟨⟨⟨⟨rfl, h1⟩, h2⟩, h3⟩, h4⟩, h5⟩ := h
          obtain ⟨s1, s2⟩ := mtX_star h3
          obtain ⟨hg, hdb⟩ := at_.gl h2
          cases as with
          | nil => rw [List.length_nil] at s2; omega
          | cons e0 eas =>
            have ia := sndX g es _ X S W at_ tk h3
            obtain ⟨fa, fd, ps, q1, q2, q3, q4⟩ := (g.fn x (inFs_of h1)).ex
            obtain ⟨ok, _, _, _⟩ := at_
            obtain ⟨o1, o2, o3, o4, o5, o6, o7, o8⟩ := ok
            rw [← o4] at q1
            rw [← o3] at q2 q3 q4
            rw [← o1, ← o2, ← o4, ← o5] at q4
            exact .plain (snd_call tk q4 o7 hg q1 q2 q3 ia h4 s1 hdb) rfl
        | cons _ _ => simp [mtE] at h
      | _ => simp [mtE] at h
    | _ => simp [mtE] at h
  | .comp own elt tg it ifs, e, X, S, W, at_, tk, h => by
    cases e with
    | ListComp x gs scope p =>
      cases gs with
      | nil => simp [mtE] at h
      | cons g0 gr =>
        cases gr with
        | cons _ _ => obtain ⟨t, i, cs, n⟩ := g0; simp [mtE] at h
        | nil =>
          obtain ⟨t, i, cs, n⟩ := g0
          simp only [mtE, Bool.and_eq_true, decide_eq_true_eq] at h
          obtain ⟨⟨⟨⟨⟨⟨⟨rfl, h1⟩, h2⟩, h3⟩, h4⟩, h5⟩, h6⟩, h7⟩ := h
          have h1' : blkC X.N X.env.scope scope own = true := by rw [at_.N, at_.sc]; exact h1
          exact .plain (snd_comp at_.ok.calm at_.ok.nd (sndI g it i t X S W at_ tk tg (blkS S scope) h3 h4) (blkOk_by h1') (own_of h2) h6
            (fun s H C cl fp => (at_.blk s H scope C cl fp).tgt h3)
            (fun s H C cl fp => sndC g ifs cs _ _ _ (at_.blk s H scope C cl fp) takes0 h7)
            (fun s H C cl fp => (sndE g elt x _ _ _ (at_.blk s H scope C cl fp) takes0 h5).pe)
            (foldS (mtI_set h4))).1 rfl
    | _ => simp [mtE] at h
  | .comp2 own elt tg it ifs tg1 it1 ifs1, e, X, S, W, at_, tk, h => by
    cases e with
    | ListComp x gs scope p =>
      match gs, h with
      | [], h => simp [mtE] at h
      | [⟨t, i, cs, n⟩], h => simp [mtE] at h
      | _ :: _ :: _ :: _, h => simp [mtE] at h
      | [⟨t, i, cs, n⟩, ⟨t1, i1, cs1, n1⟩], h =>
        simp only [mtE, Bool.and_eq_true, decide_eq_true_eq] at h
        obtain ⟨⟨⟨⟨⟨⟨⟨⟨⟨⟨⟨⟨⟨rfl, rfl⟩, h1⟩, h2⟩, h3⟩, h4⟩, h5⟩, h6⟩, h7⟩, h8⟩, h9⟩, h10⟩, h11⟩, h12⟩ := h
        have h1' : blkC X.N X.env.scope scope own = true := by rw [at_.N, at_.sc]; exact h1
        exact .plain (snd_comp2 at_.ok.calm at_.ok.nd (sndI g it i t X S W at_ tk tg (blkS S scope) h4 h5) (blkOk_by h1') (own_of h2) (own_of h3) h12 h9
          (fun s H C cl fp => (at_.blk s H scope C cl fp).tgt h4)
          (fun s H C cl fp => sndC g ifs cs _ _ _ (at_.blk s H scope C cl fp) takes0 h6)
          (fun s H C cl fp => sndI g it1 i1 t1 _ (blkS S scope) _ (at_.blk s H scope C cl fp) takes0 tg1 (blkS S scope) h7 h8)
          (fun s H C cl fp => (at_.blk s H scope C cl fp).tgt h7)
          (fun s H C cl fp => sndC g ifs1 cs1 _ _ _ (at_.blk s H scope C cl fp) takes0 h10)
          (fun s H C cl fp => (sndE g elt x _ _ _ (at_.blk s H scope C cl fp) takes0 h11).pe)
          (foldS (mtI_set h5)) (fun env => foldS (mtI_set h8))).1 rfl
    | _ => simp [mtE] at h
  | .setlen a, e, X, S, W, at_, tk, h => by
    cases e with
    | Call f as kw p =>
      match f, as, kw, h with
      | .Name x p2, [.Call (.Name y p3) [ea] [] p4], [], h =>
        simp only [mtE, Bool.and_eq_true, decide_eq_true_eq] at h
        obtain ⟨⟨⟨⟨rfl, rfl⟩, h3⟩, h4⟩, h5⟩ := h
        exact .plain (snd_setlen (at_.gl h3).1 (mg_bi g at_ .len (by decide)) (at_.gl h4).1 (by rw [at_.ok.mg]; exact g.set) (sndE g a ea X S W at_ tk h5).pe at_.ok.calm (mtE_star h5)) rfl
    | _ => simp [mtE] at h
  | .dget i k d, e, X, S, W, at_, tk, h => by
    cases e with
    | Call f as kw p =>
      match f, as, kw, h with
      | .Attribute (.Name x p2) m ap, [ek, ed], [], h =>
        simp only [mtE, Bool.and_eq_true, decide_eq_true_eq] at h
        obtain ⟨⟨⟨⟨⟨⟨⟨⟨rfl, h2⟩, h3⟩, h4⟩, h5⟩, h6⟩, h7⟩, h8⟩, h9⟩ := h
        obtain ⟨n1, n2⟩ := nm_of h4
        have s5 := mtE_star h5
        have s6 := mtE_star h6
        refine .plain (snd_dget at_.ok.hu (by rw [at_.N]; exact h2) (at_.vis h3) n1 n2 (sndE g k ek X S W at_ tk h5).pe (sndE g d ed X S W at_ tk h6).pe h7 h8 ⟨rfl, ?_, h9, ?_⟩) rfl
        · rw [star_cons s5, star_cons s6]; rfl
        · rw [star_cons s5, star_cons s6]; rfl
    | _ => simp [mtE] at h
  | .dsort it i, e, X, S, W, at_, tk, h => by
    cases e with
    | Call f as kw p =>
      match f, as, kw, h with
      | .Name f p2, [.Call (.Attribute (.Name x p3) m ap) [] [] p4], [], h =>
        simp only [mtE, Bool.and_eq_true, decide_eq_true_eq] at h
        obtain ⟨⟨⟨⟨⟨⟨rfl, h2⟩, rfl⟩, h4⟩, h5⟩, h6⟩, h7⟩ := h
        obtain ⟨n1, n2⟩ := nm_of h6
        exact .plain (snd_dsort it at_.ok.hu at_.ok.calm (at_.gl h2).1 (mg_bi g at_ .sorted (by decide)) (by rw [at_.N]; exact h4) (at_.vis h5) n1 n2 h7 (by cases it <;> rfl)) rfl
    | _ => simp [mtE] at h
  | .dead, e, X, S, W, at_, tk, h => by
    refine ⟨⟨fun pins s σ H Q I q => ?_⟩, fun _ => ⟨fun pins s σ H Q I q => ?_⟩, fun op vs pos _ _ => ⟨fun _ pins s σ H Q I q => ?_⟩⟩
    all_goals
      obtain ⟨F, O, ρ, P, E, en, w, hP, hE⟩ := q
      unfold wpE at w
      exact w.elim
theorem sndX {G : Glb} (g : GOk G) : ∀ (es : Exs) (as : List Expr) (X : Cx) (S : Sx) (W : WX), At G S X → Takes X W → mtX G.Γ S es as = true → SA X G.Γ G.ec W es as
  | .nil, [], X, S, W, at_, tk, h => sna_nil
  | .nil, _ :: _, X, S, W, at_, tk, h => by simp [mtX] at h
  | .cons a es, [], X, S, W, at_, tk, h => by simp [mtX] at h
  | .cons a es, e :: as, X, S, W, at_, tk, h => by
    simp only [mtX, Bool.and_eq_true] at h
    exact sna_cons (sndE g a e X S W at_ tk h.1).pe (sndX g es as X S W at_ tk h.2) (star_cons (mtE_star h.1))
  | .dr i es, [], X, S, W, at_, tk, h => by simp [mtX] at h
  | .dr i es, e :: as, X, S, W, at_, tk, h => by
    cases e with
    | Name x p =>
      simp only [mtX, Bool.and_eq_true, decide_eq_true_eq] at h
      obtain ⟨h1, h2⟩ := nm_of h.1.2
      exact sna_dr (by rw [at_.N]; exact h.1.1.1) (at_.vis h.1.1.2) h1 h2 (sndX g es as X S W at_ tk h.2)
    | _ => simp [mtX] at h
theorem sndO {G : Glb} (g : GOk G) : ∀ (a : Eo) (e : Option Expr) (X : Cx) (S : Sx) (W : WX), At G S X → Takes X W → mtO G.Γ S a e = true → PO X e (tO X.K G.Γ G.ec W a)
  | .no, none, X, S, W, at_, tk, h => sno_no
  | .no, some _, X, S, W, at_, tk, h => by simp [mtO] at h
  | .so a, none, X, S, W, at_, tk, h => by simp [mtO] at h
  | .so a, some e, X, S, W, at_, tk, h => sno_so (sndE g a e X S W at_ tk (by simpa only [mtO] using h)).pe
theorem sndC {G : Glb} (g : GOk G) : ∀ (a : Eo) (es : List Expr) (X : Cx) (S : Sx) (W : WX), At G S X → Takes X W → mtC G.Γ S a es = true → PTs X es (tC X.K G.Γ G.ec W a)
  | .no, [], X, S, W, at_, tk, h => snc_no
  | .no, _ :: _, X, S, W, at_, tk, h => by simp [mtC] at h
  | .so a, [], X, S, W, at_, tk, h => by simp [mtC] at h
  | .so a, [e], X, S, W, at_, tk, h => by
    simp only [mtC, Bool.and_eq_true] at h
    exact snc_so ((sndE g a e X S W at_ tk h.1).pt h.2)
  | .so a, _ :: _ :: _, X, S, W, at_, tk, h => by simp [mtC] at h
theorem sndI {G : Glb} (g : GOk G) : ∀ (it : Ir) (i t : Expr) (X : Cx) (S : Sx) (W : WX), At G S X → Takes X W → ∀ (tg : Tg) (S' : Sx), mtT S' tg t = true → mtI G.Γ S (isTup tg) it i = true → PI X t i (tI X.K G.Γ G.ec W it)
  | .seq a, i, t, X, S, W, at_, tk, tg, S', ht, h => sni_seq (sndE g a i X S W at_ tk (by simpa only [mtI] using h)).pe
  | .rng es, i, t, X, S, W, at_, tk, tg, S', ht, h => by
    cases i with
    | Call f as kw p =>
      cases f with
      | Name x p2 =>
        cases kw with
        | cons _ _ => simp [mtI] at h
        | nil =>
          simp only [mtI, Bool.and_eq_true, decide_eq_true_eq, Bool.or_eq_true, beq_iff_eq] at h
          obtain ⟨⟨⟨⟨rfl, h2⟩, h3⟩, h4⟩, h5⟩ := h
          obtain ⟨hg, _⟩ := at_.gl h2
          obtain ⟨s1, s2⟩ := mtX_star h3
          have ia := sndX g es as X S W at_ tk h3
          have hm : X.mg "range" = none := by rw [at_.ok.mg]; exact g.rng
          match as, s1, s2, ia with
          | [], s1, s2, ia => rw [List.length_nil] at s2; omega
          | [a], s1, s2, ia => exact sni_rng1 hg hm ia (by simpa using s1) s2.symm
          | [a, b], s1, s2, ia => exact sni_rng2 hg hm ia (by simp at s1; exact s1.1) (by simp at s1; exact s1.2) s2.symm
          | _ :: _ :: _ :: _, s1, s2, ia => simp at s2; omega
      | _ => simp [mtI] at h
    | _ => simp [mtI] at h
  | .enum a, i, t, X, S, W, at_, tk, tg, S', ht, h => by
    cases i with
    | Call f as kw p =>
      cases f with
      | Name x p2 =>
        match as, kw, h with
        | [], _, h => simp [mtI] at h
        | _ :: _ :: _, _, h => simp [mtI] at h
        | [_], _ :: _, h => simp [mtI] at h
        | [ea], [], h =>
          simp only [mtI, Bool.and_eq_true, decide_eq_true_eq] at h
          obtain ⟨⟨⟨rfl, h2⟩, h3⟩, h4⟩ := h
          obtain ⟨hg, _⟩ := at_.gl h2
          obtain ⟨elts, kk, tp, rfl⟩ := mtT_tup ht h4
          exact sni_enum hg (by rw [at_.ok.mg]; exact g.enm) (sndE g a ea X S W at_ tk h3).pe (mtE_star h3)
      | _ => simp [mtI] at h
    | _ => simp [mtI] at h
  | .zip a b, i, t, X, S, W, at_, tk, tg, S', ht, h => by
    cases i with
    | Call f as kw p =>
      cases f with
      | Name x p2 =>
        match as, kw, h with
        | [], _, h => simp [mtI] at h
        | [_], _, h => simp [mtI] at h
        | _ :: _ :: _ :: _, _, h => simp [mtI] at h
        | [_, _], _ :: _, h => simp [mtI] at h
        | [ea, eb], [], h =>
          simp only [mtI, Bool.and_eq_true, decide_eq_true_eq] at h
          obtain ⟨⟨⟨⟨rfl, h2⟩, h3⟩, h4⟩, h5⟩ := h
          obtain ⟨hg, _⟩ := at_.gl h2
          obtain ⟨elts, kk, tp, rfl⟩ := mtT_tup ht h5
          exact sni_zip hg (by rw [at_.ok.mg]; exact g.zip) (sndE g a ea X S W at_ tk h3).pe (sndE g b eb X S W at_ tk h4).pe (mtE_star h3) (mtE_star h4)
      | _ => simp [mtI] at h
    | _ => simp [mtI] at h
end
end DL

set_option Elab.async false
set_option linter.all false
set_option maxRecDepth 100000
set_option maxHeartbeats 4000000
namespace DL
open PySem PySem.Spec PyProof.Rows L2
open PySem.SeqAt (dataPlace remove_list_data)

/-! ### statements -/
mutual
inductive St where
  | set (i : Nat) (e : Ex)
  | own (i : Nat) (e : Ex)
  | unp (ts : Tgs) (e : Ex)
  | frz (i : Nat)
  | aug (i : Nat) (op : Operator) (e : Ex)
  | put (i : Nat) (ix e : Ex)
  | augp (i : Nat) (ix : Ex) (op : Operator) (e : Ex)
  | app (i : Nat) (e : Ex)
  | ext (i : Nat) (e : Ex)
  | expr (e : Ex)
  | ret (e : Ex)
  | ife (t : Ex) (a b : Sts)
  | loop (tg : Tg) (it : Ir) (body : Sts)
  | whl (t : Ex) (body : Sts)
  | rais (x : Str)
  | try1 (body : Sts) (x : Str) (c : Ex)
  | brk | cnt | pss
  | retn
  | dnew (i : Nat)
  | dput (i : Nat) (k e : Ex)
  | ins (i : Nat) (ix e : Ex)
  | rem (i : Nat) (e : Ex)
  | dead
inductive Sts where
  | nil
  | cons (s : St) (ss : Sts)
end
/-- what is wanted behind a statement -/
structure Kt where
  nx : Rho → Prop
  rt : D → Prop
  bk : Rho → Prop
  ct : Rho → Prop
  er : Str → Rho → Prop
def forW (body : D → Rho → (Rho → Prop) → Prop) : List D → Rho → (Rho → Prop) → Prop
  | [], ρ, Q => Q ρ
  | d :: ds, ρ, Q => body d ρ fun ρ' => forW body ds ρ' Q
def augF : Operator → D → D → (D → Prop) → Prop
  | .Add, .int i, .int j, P => P (.int (i + j))
  | .Sub, .int i, .int j, P => P (.int (i - j))
  | .Mult, .int i, .int j, P => dMulOk i j ∧ P (.int (i * j))
  | _, _, _, _ => False
def constD : Ex → Option D
  | .int i => some (.int i)
  | .bl b => some (.bool b)
  | .non => some .none
  | .str s => some (.str s)
  | _ => none
/-- a list that the frame owns -/
def owL (ρ : Rho) (i : Nat) (P : List D → Prop) : Prop := match ρ[i]? with
  | some (some (.ow (.list ds))) => P ds
  | _ => False
def odL (ρ : Rho) (i : Nat) (P : List (NestedKey × D) → Prop) : Prop := match ρ[i]? with
  | some (some (.od kvs)) => P kvs
  | _ => False
def intQ (d : D) (P : Int → Prop) : Prop := match d with
  | .int z => P z
  | _ => False
def lstQ (d : D) (P : List D → Prop) : Prop := match d with
  | .list ds => P ds
  | _ => False
mutual
def wpS (Γ : Gam) : St → Rho → Kt → Prop
  | .set i e, ρ, k => wpE Γ e ρ (fun d => k.nx (ρ.set i (some (.fz d)))) fun x => k.er x ρ
  | .own i e, ρ, k => wpE Γ e ρ (fun d => lstQ d fun ds => k.nx (ρ.set i (some (.ow (.list ds))))) fun x => k.er x ρ
  | .unp ts e, ρ, k => wpE Γ e ρ (fun d => bindT (.t ts) d ρ k.nx) fun x => k.er x ρ
  | .frz i, ρ, k => match ρ[i]? with
    | some (some (.ow d)) => k.nx (ρ.set i (some (.fz d)))
    | _ => False
  | .aug i op e, ρ, k => match ρ[i]? with
    | some (some (.fz x)) => wpE Γ e ρ (fun y => augF op x y fun r => k.nx (ρ.set i (some (.fz r)))) fun x => k.er x ρ
    | _ => False
  | .put i ix e, ρ, k => wpE Γ e ρ (fun y => owL ρ i fun ds => wpE Γ ix ρ (fun z => intQ z fun z => optQ (ixN ds.length z) fun j => k.nx (ρ.set i (some (.ow (.list (ds.set j y)))))) fun x => k.er x ρ) fun x => k.er x ρ
  | .augp i ix op e, ρ, k => owL ρ i fun ds => wpE Γ ix ρ (fun z => intQ z fun z => optQ (atI ds z) fun x => wpE Γ e ρ (fun y => augF op x y fun r => optQ (ixN ds.length z) fun j => k.nx (ρ.set i (some (.ow (.list (ds.set j r)))))) fun x => k.er x ρ) fun x => k.er x ρ
  | .app i e, ρ, k => owL ρ i fun ds => wpE Γ e ρ (fun y => ds.length < sizeLine ∧ k.nx (ρ.set i (some (.ow (.list (ds ++ [y])))))) fun x => k.er x ρ
  | .ext i e, ρ, k => owL ρ i fun ds => wpE Γ e ρ (fun y => lstQ y fun es => ds.length + es.length ≤ sizeLine ∧ k.nx (ρ.set i (some (.ow (.list (ds ++ es)))))) fun x => k.er x ρ
  | .expr e, ρ, k => wpE Γ e ρ (fun _ => k.nx ρ) fun x => k.er x ρ
  | .ret e, ρ, k => wpE Γ e ρ k.rt fun x => k.er x ρ
  | .ife t a b, ρ, k => wpE Γ t ρ (fun d => optQ (truD d) fun c => if c = true then wpSs Γ a ρ k else wpSs Γ b ρ k) fun x => k.er x ρ
  | .loop tg it body, ρ, k => wpI Γ it ρ (fun ds => forW (fun d ρ1 kk => bindT tg d ρ1 fun ρ2 => wpSs Γ body ρ2 { k with nx := kk, ct := kk, bk := k.nx }) ds ρ k.nx) fun x => k.er x ρ
  | .whl t body, ρ, k => ∃ I : Nat → Rho → Prop, (∃ m, I m ρ) ∧ ∀ m ρ', I m ρ' →
      wpE Γ t ρ' (fun d => optQ (truD d) fun c => if c = true then wpSs Γ body ρ' { k with nx := fun ρ2 => ∃ m', m' < m ∧ I m' ρ2, ct := fun ρ2 => ∃ m', m' < m ∧ I m' ρ2, bk := k.nx } else k.nx ρ') fun x => k.er x ρ'
  | .rais x, ρ, k => k.er x ρ
  | .try1 body x c, ρ, k => wpSs Γ body ρ { k with er := fun y ρ' => y ∈ Γ.exs ∧ if y = x then optQ (constD c) k.rt else k.er y ρ' }
  | .brk, ρ, k => k.bk ρ
  | .cnt, ρ, k => k.ct ρ
  | .pss, ρ, k => k.nx ρ
  | .retn, ρ, k => k.rt .none
  | .dnew i, ρ, k => k.nx (ρ.set i (some (.od [])))
  | .dput i ke e, ρ, k => wpE Γ e ρ (fun y => odL ρ i fun kvs => wpE Γ ke ρ (fun z => optQ (keyT z) fun kk => kvs.length < sizeLine ∧ k.nx (ρ.set i (some (.od (putV kvs kk y))))) fun x => k.er x ρ) fun x => k.er x ρ
  | .ins i ix e, ρ, k => owL ρ i fun ds => wpE Γ ix ρ (fun z => intQ z fun z => wpE Γ e ρ (fun y => ds.length < sizeLine ∧ 0 ≤ z ∧ z < 2 ^ 63 ∧ k.nx (ρ.set i (some (.ow (.list (ds.take z.toNat ++ [y] ++ ds.drop z.toNat)))))) fun x => k.er x ρ) fun x => k.er x ρ
  | .rem i e, ρ, k => owL ρ i fun ds => wpE Γ e ρ (fun y => shp y ∧ shp (.list ds) ∧ optQ (dataPlace ds y) fun j => k.nx (ρ.set i (some (.ow (.list (ds.eraseIdx j)))))) fun x => k.er x ρ
  | .dead, ρ, k => False
def wpSs (Γ : Gam) : Sts → Rho → Kt → Prop
  | .nil, ρ, k => k.nx ρ
  | .cons s ss, ρ, k => wpS Γ s ρ { k with nx := fun ρ' => wpSs Γ ss ρ' k }
end

/-! ### what the grammar must be -/
def slotB (S : Sx) (i : Nat) : Expr → Bool
  | .Name x _ => decide (S.N[i]? = some x) && locB S x && nmB x
  | _ => false
/-- how name = e is stored -/
def asgB (S : Sx) (x : Str) (py : Pos) (v : Expr) : Bool := match v with
  | .ListComp _ _ scope p2 => (match S.sc.names.lookup x with
    | some .local => py.line == p2.line && !(scope.names.any fun (n, k) => n == x && (k == .local || k == .cell))
    | some .cell => true
    | _ => false)
  | e => !isCmp e
def nmsOf : List Expr → Option (List (Str × Pos))
  | [] => some []
  | .Name x p :: r => (nmsOf r).map ((x, p) :: ·)
  | _ => none
def tgsNames : Tgs → Option (List Nat)
  | .nil => some []
  | .cons (.n i) r => (tgsNames r).map (i :: ·)
  | _ => none
/-- the names that are stored without a tuple -/
def swLine (ts : List Expr) : Nat := (ts.head?.map (·.pos.line)).getD 0
def swNames (sc : Scope) (ts : List Expr) : List Str := ts.filterMap fun
  | .Name id pos => if sc.names.lookup id == some .local && pos.line == swLine ts then some id else none
  | _ => none
def isStar : Expr → Bool
  | .Starred .. => true
  | _ => false
/-- a, b = x, y: both plain local names on one line, so that no tuple is made -/
def swap2 (S : Sx) : Tgs → List Expr → Ex → Expr → Bool
  | .cons (.n i) (.cons (.n j) .nil), [.Name x px, .Name y py], .tup (.cons _ (.cons _ .nil)), .Tuple [a, b] _ _ =>
    decide (S.sc.names.lookup x = some .local) && decide (S.sc.names.lookup y = some .local) && decide (swNames S.sc [.Name x px, .Name y py] = [x, y]) && decide ([x, y].eraseDups.length = 2) && decide (i ≠ j) && !starred a && !starred b && !([a, b].all (foldedForSure 8)) && !([a, b].all (constantsAlone 8))
  | _, _, _, _ => false
/-- the display on the right is stored as any tuple -/
def noswap (S : Sx) (es : List Expr) : Expr → Bool
  | .Tuple vs _ _ => !(es.length == 2 || es.length == 3) || vs.length != es.length || vs.any isStar || ((swNames S.sc es).length != es.length || (swNames S.sc es).eraseDups.length != (swNames S.sc es).length) || vs.all (foldedForSure 8)
  | e => true
/-- raise X('..') -/
def raisOf : Option Expr → Option Expr → Option Str
  | some (.Call (.Name x _) [.Constant (.str _) _ _] [] _), none => some x
  | _, _ => none
/-- except X: return c -/
def tryOf : List ExceptHandler → List Stmt → List Stmt → Option (Str × Expr)
  | [.ExceptHandler (some (.Name y _)) none [.Return (some r) _] _], [], [] => some (y, r)
  | _, _, _ => none
def isFrz : St → Bool
  | .frz _ => true
  | _ => false
mutual
def mtS (Γ : Gam) (S : Sx) : St → Stmt → Bool
  | .set i e, .Assign [.Name x py] v pos => slotB S i (.Name x py) && mtE Γ S e v && nb e && asgB S x py v
  | .own i e, .Assign [.Name x py] v pos => slotB S i (.Name x py) && mtE Γ S e v && frs e && nb e && asgB S x py v
  | .unp ts e, .Assign [.Tuple es _ _] v pos => mtTs S ts es && mtE Γ S e v && nb e && !isCmp v && (swap2 S ts es e v || noswap S es v)
  | .aug i op e, .AugAssign (.Name x py) op' v _ => slotB S i (.Name x py) && decide (op = op') && mtE Γ S e v && nb e
  | .put i ix e, .Assign [.Subscript o eix _] v pos => slotB S i o && mtE Γ S ix eix && mtE Γ S e v && nb e && !isCmp v
  | .augp i ix op e, .AugAssign (.Subscript o eix _) op' v _ => slotB S i o && mtE Γ S ix eix && decide (op = op') && mtE Γ S e v && nb e && nb ix
  | .app i e, .Expr (.Call (.Attribute o m ap) [v] [] cp) pos => decide (m = ("append" : Str)) && slotB S i o && mtE Γ S e v && nb e && ap.endLine == cp.line
  | .ext i e, .Expr (.Call (.Attribute o m ap) [v] [] cp) pos => decide (m = ("extend" : Str)) && slotB S i o && mtE Γ S e v && nb e && ap.endLine == cp.line
  | .expr e, .Expr v _ => mtE Γ S e v && !isCmp v
  | .ret e, .Return (some v) _ => mtE Γ S e v
  | .ife t a b, .If c x y _ => mtE Γ S t c && tstB c && mtSs Γ S a x && mtSs Γ S b y
  | .loop tg it body, .For t i x [] _ => mtT S tg t && mtI Γ S (isTup tg) it i && nbI it && mtSs Γ S body x
  | .whl t body, .While c x [] _ => mtE Γ S t c && tstB c && mtSs Γ S body x
  | .rais n, .Raise ex cause _ => (match raisOf ex cause with
    | some x => decide (x = n) && glB S.sc x && Γ.exs.any fun g => decide (g = x)
    | none => false)
  | .try1 body n c, .Try x hs oe fb _ => (match tryOf hs oe fb with
    | some (y, r) => decide (y = n) && glB S.sc y && (Γ.exs.any fun g => decide (g = y)) && mtSs Γ S body x && mtE Γ S c r && (constD c).isSome
    | none => false)
  | .brk, .Break _ => true
  | .cnt, .Continue _ => true
  | .pss, .Pass _ => true
  | .retn, .Return none _ => true
  | .dnew i, .Assign [.Name x py] (.Dict [] [] _) _ => slotB S i (.Name x py)
  | .dput i ke e, .Assign [.Subscript o ek _] v pos => slotB S i o && mtE Γ S ke ek && mtE Γ S e v && nb e && nb ke && !isCmp v
  | .ins i ix e, .Expr (.Call (.Attribute o m ap) [ei, v] [] cp) pos => decide (m = ("insert" : Str)) && slotB S i o && mtE Γ S ix ei && mtE Γ S e v && nb e && ap.endLine == cp.line
  | .rem i e, .Expr (.Call (.Attribute o m ap) [v] [] cp) pos => decide (m = ("remove" : Str)) && slotB S i o && mtE Γ S e v && nb e && ap.endLine == cp.line
  | .dead, _ => true
  | _, _ => false
def mtSs (Γ : Gam) (S : Sx) : Sts → List Stmt → Bool
  | .nil, sts => sts.isEmpty
  | .cons s ss, sts => if isFrz s = true then mtSs Γ S ss sts else match sts with
    | st :: r => mtS Γ S s st && mtSs Γ S ss r
    | [] => false
end
end DL

set_option Elab.async false
set_option linter.all false
set_option maxRecDepth 100000
set_option maxHeartbeats 8000000
namespace DL
open PySem PySem.Spec PyProof.Rows L2
open PySem.SeqAt (dataPlace remove_list_data)

structure AtS (G : Glb) (S : Sx) (X : Cx) : Prop where
  at_ : At G S X
  stk : X.stack = X.env :: X.outer
  frm : X.env.frame = some X.env.locals
  kind : S.sc.kind = .function
  psn : PassesOwn (model X.prog X.w) X.A X.env X.xe
structure Kon (K : PySem.W.Frag) (ec : Str → Value) (W : WX) (F : Fm) (k : Kt) (D : Ends) : Prop where
  nx : ∀ ρ', k.nx ρ' → ∀ O' σ' H', EnvR K F O' H' σ' ρ' → D.nx σ' H'
  rt : ∀ d, k.rt d → ∀ O' σ' H' ρ' v, EnvR K F O' H' σ' ρ' → Dr K F.O0 H' v d → D.rt v H'
  bk : ∀ ρ', k.bk ρ' → ∀ O' σ' H', EnvR K F O' H' σ' ρ' → D.bk σ' H'
  ct : ∀ ρ', k.ct ρ' → ∀ O' σ' H', EnvR K F O' H' σ' ρ' → D.ct σ' H'
  er : ∀ x ρ', k.er x ρ' → ∀ O' σ' H', EnvR K F O' H' σ' ρ' → W (ec x) none σ' H'
section
variable (K : PySem.W.Frag) (Γ : Gam) (ec : Str → Value) (W : WX)
def tS (s : DL.St) : TS := fun D σ H => ∃ F O ρ k, EnvR K F O H σ ρ ∧ wpS Γ s ρ k ∧ Kon K ec W F k D
def tSs (s : Sts) : TS := fun D σ H => ∃ F O ρ k, EnvR K F O H σ ρ ∧ wpSs Γ s ρ k ∧ Kon K ec W F k D
end
section
variable {X : Cx} {G : Glb} {S : Sx} {Γ : Gam} {ec : Str → Value} {W : WX} {e : Ex} {v : Expr} {pos py : Pos} {i : Nat} {x : Str}
theorem PS.conseq {s : Stmt} {t t' : TS} (h : PS X s t) (c : ∀ D σ H, t' D σ H → t D σ H) : PS X s t' := ⟨fun pins s σ H D I w => h.run pins s σ H D I (c D σ H w)⟩
theorem PSs.conseq {s : List Stmt} {t t' : TS} (h : PSs X s t) (c : ∀ D σ H, t' D σ H → t D σ H) : PSs X s t' := ⟨fun pins s σ H D I w => h.run pins s σ H D I (c D σ H w)⟩
theorem Kon.er1 {K : PySem.W.Frag} {F : Fm} {O : Addr → Prop} {H : Hp} {σ : L2.St} {ρ : Rho} {k : Kt} {D : Ends} (h : Kon K ec W F k D) (en : EnvR K F O H σ ρ) : Er1 K ec W F O H σ (fun x => k.er x ρ) := fun x hx H' s' => h.er x ρ hx O σ H' (en.stp s')
theorem BDr.low {K : PySem.W.Frag} {F : Fm} {O : Addr → Prop} {H : Hp} {σ : L2.St} {ρ : Rho} {w : V} {d : D} (en : EnvR K F O H σ ρ) (h : BDr K F.O0 O H w d) : Dr K F.O0 H w d := by
  rcases h with h | ⟨a, xs, ds, rfl, rfl, n, h1, h2⟩
  · exact Dr.stay (fun _ _ _ n q => n (en.sub _ q)) (fun _ _ _ q => q) d w h
  · exact .lst h1 n (DrA.stay (fun _ _ _ n q => n (en.sub _ q)) (fun _ _ _ q => q) ds xs h2)

/-! names stored -/
theorem sns_set (nd : X.N.Nodup) (hN : X.N[i]? = some x) (hx : Loc X.env.scope x) (hf : X.fn x = true ∨ X.env.scope.names.lookup x = some .local) (he : SE X Γ ec W e v) (hn : nb e = true) (hs : swapsWith v (some (.Name x py)) pos.line X.env = pure false) :
    PS X (.Assign [.Name x py] v pos) (tS X.K Γ ec W (.set i e)) := by
  refine PS.conseq (ps_set nd hN hx he hs hf) fun D σ H h => ?_
  obtain ⟨F, O, ρ, k, en, w, kn⟩ := h
  unfold wpS at w
  refine ⟨F, O, ρ, _, _, en, w, fun d hd u H1 s1 r1 => ?_, kn.er1 en⟩
  exact kn.nx _ hd O _ H1 ((en.stp s1).set (r1.n hn))
theorem sns_own (nd : X.N.Nodup) (hN : X.N[i]? = some x) (hx : Loc X.env.scope x) (hf : X.fn x = true ∨ X.env.scope.names.lookup x = some .local) (he : SE X Γ ec W e v) (hn : frs e = true) (hs : swapsWith v (some (.Name x py)) pos.line X.env = pure false) :
    PS X (.Assign [.Name x py] v pos) (tS X.K Γ ec W (.own i e)) := by
  refine PS.conseq (ps_set nd hN hx he hs hf) fun D σ H h => ?_
  obtain ⟨F, O, ρ, k, en, w, kn⟩ := h
  unfold wpS at w
  refine ⟨F, O, ρ, _, _, en, w, fun d hd u H1 s1 r1 => ?_, kn.er1 en⟩
  cases d with
  | list ds =>
    obtain ⟨p, xs, rfl, hp, hp', hA⟩ := r1.f hn ds rfl
    exact kn.nx _ hd _ _ H1 (en.own s1 hp hp' hA)
  | _ => exact hd.elim
/-- a comprehension given to a plain local -/
theorem sns_setLc {own : List (Str × Nat)} {elt : Ex} {tg : Tg} {it : Ir} {ifs : Eo} {eelt etg eiter : Expr} {eifs : List Expr} {scope : Scope} {p2 : Pos} (o : Bool) (hc : X.calm = true) (nd : X.N.Nodup) (hN : X.N[i]? = some x) (hyl : X.env.scope.names.lookup x = some .local)
    (hsw : swapsWith (.ListComp eelt [⟨etg, eiter, eifs, 0⟩] scope p2) (some (.Name x py)) pos.line X.env = pure true) (hi : PI X etg eiter (tI X.K Γ ec W it)) (ok : BlkOk X.N X.env.scope scope own)
    (hsub : ∀ j ∈ slotsT tg, j ∈ own.map (·.2)) (hne : nb elt = true)
    (hg : ∀ (s : Shared) (H : Hp) (C : Addr) (cl : List (Str × Addr)) (fp : List Addr), PG (X.blk s H scope (compEnvC scope cl C X.env) fp) etg (tG X.K tg)) (ht : ∀ (s : Shared) (H : Hp) (C : Addr) (cl : List (Str × Addr)) (fp : List Addr), PTs (X.blk s H scope (compEnvC scope cl C X.env) fp) eifs (tC X.K Γ ec W0 ifs))
    (he : ∀ (s : Shared) (H : Hp) (C : Addr) (cl : List (Str × Addr)) (fp : List Addr), PE (X.blk s H scope (compEnvC scope cl C X.env) fp) eelt (tE X.K Γ ec W0 elt)) (hs : ∀ x, foldedSetIterable eiter X.env x = pure x) :
    PS X (.Assign [.Name x py] (.ListComp eelt [⟨etg, eiter, eifs, 0⟩] scope p2) pos) (tS X.K Γ ec W (if o = true then .own i (.comp own elt tg it ifs) else .set i (.comp own elt tg it ifs))) := by
  have main := (snd_comp (W := W) (pos := p2) hc nd hi ok hsub hne hg ht he hs).2
  refine PS.conseq (ps_setLc hc nd hN hyl hsw hi ok hg ht he hs) fun D σ H h => ?_
  obtain ⟨F, O, ρ, k, en, w, kn⟩ := h
  refine main σ H _ ?_
  cases o with
  | true =>
    rw [if_pos rfl] at w
    unfold wpS at w
    refine ⟨F, O, ρ, _, _, en, w, fun d hd u H1 s1 r1 => ?_, kn.er1 en⟩
    cases d with
    | list ds =>
      obtain ⟨p, xs, rfl, hp, hp', hA⟩ := r1.f rfl ds rfl
      exact kn.nx _ hd _ _ H1 (en.own s1 hp hp' hA)
    | _ => exact hd.elim
  | false =>
    rw [if_neg Bool.false_ne_true] at w
    unfold wpS at w
    refine ⟨F, O, ρ, _, _, en, w, fun d hd u H1 s1 r1 => ?_, kn.er1 en⟩
    exact kn.nx _ hd O _ H1 ((en.stp s1).set (r1.n rfl))
theorem sns_setLc2 {own : List (Str × Nat)} {elt : Ex} {tg tg1 : Tg} {it it1 : Ir} {ifs ifs1 : Eo} {eelt etg eiter etg1 eiter1 : Expr} {eifs eifs1 : List Expr} {scope : Scope} {p2 : Pos} (o : Bool) (hc : X.calm = true) (nd : X.N.Nodup) (hN : X.N[i]? = some x) (hyl : X.env.scope.names.lookup x = some .local)
    (hsw : swapsWith (.ListComp eelt [⟨etg, eiter, eifs, 0⟩, ⟨etg1, eiter1, eifs1, 0⟩] scope p2) (some (.Name x py)) pos.line X.env = pure true) (hi : PI X etg eiter (tI X.K Γ ec W it)) (ok : BlkOk X.N X.env.scope scope own)
    (hsub : ∀ j ∈ slotsT tg, j ∈ own.map (·.2)) (hsub1 : ∀ j ∈ slotsT tg1, j ∈ own.map (·.2)) (hne : nb elt = true) (hni : nbI it1 = true)
    (hg : ∀ (s : Shared) (H : Hp) (C : Addr) (cl : List (Str × Addr)) (fp : List Addr), PG (X.blk s H scope (compEnvC scope cl C X.env) fp) etg (tG X.K tg)) (ht : ∀ (s : Shared) (H : Hp) (C : Addr) (cl : List (Str × Addr)) (fp : List Addr), PTs (X.blk s H scope (compEnvC scope cl C X.env) fp) eifs (tC X.K Γ ec W0 ifs))
    (hi1 : ∀ (s : Shared) (H : Hp) (C : Addr) (cl : List (Str × Addr)) (fp : List Addr), PI (X.blk s H scope (compEnvC scope cl C X.env) fp) etg1 eiter1 (tI X.K Γ ec W0 it1))
    (hg1 : ∀ (s : Shared) (H : Hp) (C : Addr) (cl : List (Str × Addr)) (fp : List Addr), PG (X.blk s H scope (compEnvC scope cl C X.env) fp) etg1 (tG X.K tg1)) (ht1 : ∀ (s : Shared) (H : Hp) (C : Addr) (cl : List (Str × Addr)) (fp : List Addr), PTs (X.blk s H scope (compEnvC scope cl C X.env) fp) eifs1 (tC X.K Γ ec W0 ifs1))
    (he : ∀ (s : Shared) (H : Hp) (C : Addr) (cl : List (Str × Addr)) (fp : List Addr), PE (X.blk s H scope (compEnvC scope cl C X.env) fp) eelt (tE X.K Γ ec W0 elt)) (hs : ∀ x, foldedSetIterable eiter X.env x = pure x) (hs1 : ∀ env x, foldedSetIterable eiter1 env x = pure x) :
    PS X (.Assign [.Name x py] (.ListComp eelt [⟨etg, eiter, eifs, 0⟩, ⟨etg1, eiter1, eifs1, 0⟩] scope p2) pos) (tS X.K Γ ec W (if o = true then .own i (.comp2 own elt tg it ifs tg1 it1 ifs1) else .set i (.comp2 own elt tg it ifs tg1 it1 ifs1))) := by
  have main := (snd_comp2 (W := W) (pos := p2) hc nd hi ok hsub hsub1 hne hni hg ht hi1 hg1 ht1 he hs hs1).2
  refine PS.conseq (ps_setLc2 hc nd hN hyl hsw hi ok hsub1 hg ht hi1 hg1 ht1 he hs hs1) fun D σ H h => ?_
  obtain ⟨F, O, ρ, k, en, w, kn⟩ := h
  refine main σ H _ ?_
  cases o with
  | true =>
    rw [if_pos rfl] at w
    unfold wpS at w
    refine ⟨F, O, ρ, _, _, en, w, fun d hd u H1 s1 r1 => ?_, kn.er1 en⟩
    cases d with
    | list ds =>
      obtain ⟨p, xs, rfl, hp, hp', hA⟩ := r1.f rfl ds rfl
      exact kn.nx _ hd _ _ H1 (en.own s1 hp hp' hA)
    | _ => exact hd.elim
  | false =>
    rw [if_neg Bool.false_ne_true] at w
    unfold wpS at w
    refine ⟨F, O, ρ, _, _, en, w, fun d hd u H1 s1 r1 => ?_, kn.er1 en⟩
    exact kn.nx _ hd O _ H1 ((en.stp s1).set (r1.n rfl))
theorem sns_unp {ts : Tgs} {es : List Expr} {kk : Nat} {tp : Pos} (hg : PG X (.Tuple es kk tp) (tG X.K (.t ts))) (he : SE X Γ ec W e v) (hn : nb e = true) (hs : swapsWithSole [.Tuple es kk tp] v pos.line X.env = pure false) (hw : swappedStores [.Tuple es kk tp] v X.env = pure none) :
    PS X (.Assign [.Tuple es kk tp] v pos) (tS X.K Γ ec W (.unp ts e)) := by
  refine PS.conseq (ps_asg he hg hs hw rfl) fun D σ H h => ?_
  obtain ⟨F, O, ρ, k, en, w, kn⟩ := h
  unfold wpS at w
  refine ⟨F, O, ρ, _, _, en, w, fun d hd u H1 s1 r1 => ?_, kn.er1 en⟩
  exact ⟨F, O, ρ, d, _, en.stp s1, r1.n hn, hd, fun ρ' hp σ' _ en' => kn.nx _ hp O σ' H1 en'⟩
theorem sns_par {j : Nat} {y : Str} {a b : Ex} {ea eb : Expr} {px py2 pt pt2 : Pos} {kt k2 : Nat} (hc : X.calm = true) (nd : X.N.Nodup) (hi : X.N[i]? = some x) (hj : X.N[j]? = some y) (hij : i ≠ j)
    (hx : X.env.scope.names.lookup x = some .local) (hy : X.env.scope.names.lookup y = some .local) (ha : SE X Γ ec W a ea) (hb : SE X Γ ec W b eb) (na : nb a = true) (nb' : nb b = true) (sa : starred ea = false) (sb : starred eb = false)
    (hw : swappedStores [.Tuple [.Name x px, .Name y py2] kt pt] (.Tuple [ea, eb] k2 pt2) X.env = pure (some [x, y])) :
    PS X (.Assign [.Tuple [.Name x px, .Name y py2] kt pt] (.Tuple [ea, eb] k2 pt2) pos) (tS X.K Γ ec W (.unp (.cons (.n i) (.cons (.n j) .nil)) (.tup (.cons a (.cons b .nil))))) := by
  refine PS.conseq (ps_par hc nd hi hj hij hx hy (pa_cons ha (pa_cons hb pa_nil (star_cons sb)) (star_cons sa)) hw rfl) fun D σ H h => ?_
  obtain ⟨F, O, ρ, k, en, w, kn⟩ := h
  simp only [wpS, wpE, wpX] at w
  refine ⟨F, O, ρ, _, _, en, w, fun d hd u H1 s1 r1 => ?_, kn.er1 en⟩
  refine ⟨F, O, ρ, _, _, en.stp s1, hd, fun d2 hd2 u2 H2 s2 r2 => ?_, (kn.er1 en).next s1⟩
  have hd3 : k.nx ((ρ.set i (some (.fz d))).set j (some (.fz d2))) := by
    simp only [fzs, Option.map_some, optQ, bindT, bindTs, tgsLen] at hd2
    exact hd2.2.2
  have en2 := (en.stp s1).stp s2
  exact ⟨u, u2, rfl, kn.nx _ hd3 O _ H2 ((en2.set ((r1.n na).stp (en.stp s1) s2)).set (r2.n nb'))⟩
theorem sns_frz {ss : Sts} {sts : List Stmt} (h : PSs X sts (tSs X.K Γ ec W ss)) : PSs X sts (tSs X.K Γ ec W (.cons (.frz i) ss)) := by
  refine PSs.conseq h fun D σ H h => ?_
  obtain ⟨F, O, ρ, k, en, w, kn⟩ := h
  unfold wpSs wpS at w
  split at w
  · rename_i d hd
    obtain ⟨a, h1, en2⟩ := en.freeze hd
    exact ⟨F, _, _, k, en2, w, kn⟩
  · exact w.elim
/-! += -/
theorem iop_mulW : OpR X (inplaceOp .Mult) (rI CMulW fun i j => .int (i * j)) := opI fun _ _ _ _ _ _ _ hc q => imul_int q hc.ok
def RAug (op : Operator) : V → V → Hp → VK → Prop := fun x y H Q => ∃ i j P, x = .int i ∧ y = .int j ∧ augF op (.int i) (.int j) P ∧ ∀ r, P (.int r) → Q (.int r) H
theorem ip_F (op : Operator) : PIp X op (RAug op) := by
  intro pins s σ H a b v u Q I rx ry h
  obtain ⟨i, j, P, rfl, rfl, q, hP⟩ := h
  cases op with
  | Add => exact iop_add pins s σ H _ _ v u Q I rx ry ⟨i, j, rfl, rfl, hP _ q⟩
  | Sub => exact iop_sub pins s σ H _ _ v u Q I rx ry ⟨i, j, rfl, rfl, hP _ q⟩
  | Mult => exact iop_mulW pins s σ H _ _ v u Q I rx ry ⟨i, j, rfl, rfl, q.1, hP _ q.2⟩
  | _ => exact q.elim
theorem augF_int {op : Operator} {a b : D} {P : D → Prop} (h : augF op a b P) : ∃ i j, a = .int i ∧ b = .int j := by
  cases op <;> cases a <;> first | exact h.elim | (cases b <;> first | exact h.elim | exact ⟨_, _, rfl, rfl⟩)
theorem augF_res {op : Operator} {a b : D} {P : D → Prop} (h : augF op a b P) : augF op a b fun r => P r ∧ ∃ z, r = .int z := by
  obtain ⟨i, j, rfl, rfl⟩ := augF_int h
  cases op <;> first | exact h.elim | exact ⟨h, _, rfl⟩ | exact ⟨h.1, h.2, _, rfl⟩
theorem sns_aug {op : Operator} (nd : X.N.Nodup) (hN : X.N[i]? = some x) (hx : Loc X.env.scope x) (hf : X.fn x = true ∨ X.env.scope.names.lookup x = some .local) (he : SE X Γ ec W e v) : PS X (.AugAssign (.Name x py) op v pos) (tS X.K Γ ec W (.aug i op e)) := by
  refine PS.conseq (ps_aug nd hN hx he (ip_F op) hf) fun D σ H h => ?_
  obtain ⟨F, O, ρ, k, en, w, kn⟩ := h
  unfold wpS at w
  split at w
  · rename_i d hd
    obtain ⟨z, h1, h2⟩ := en.fz hd
    refine ⟨z, h1, F, O, ρ, _, _, en, w, fun y hy u H1 s1 r1 => ?_, kn.er1 en⟩
    obtain ⟨a, b, rfl, rfl⟩ := augF_int hy
    cases h2
    refine ⟨a, b, _, rfl, r1.b.int, hy, fun r hr => ?_⟩
    exact kn.nx _ hr O _ H1 ((en.stp s1).set (.int r))
  · exact w.elim
/-! items stored -/
theorem owL_iff {ρ : Rho} {P : List D → Prop} (h : owL ρ i P) : ∃ ds, ρ[i]? = some (some (.ow (.list ds))) ∧ P ds := by
  unfold owL at h
  split at h
  · rename_i ds q; exact ⟨ds, q, h⟩
  · exact h.elim
theorem intQ_iff {d : D} {P : Int → Prop} (h : intQ d P) : ∃ z, d = .int z ∧ P z := by
  cases d <;> first | exact h.elim | exact ⟨_, rfl, h⟩
theorem lstQ_iff {d : D} {P : List D → Prop} (h : lstQ d P) : ∃ z, d = .list z ∧ P z := by
  cases d <;> first | exact h.elim | exact ⟨_, rfl, h⟩
theorem EnvR.owS {K : PySem.W.Frag} {F : Fm} {O : Addr → Prop} {H : Hp} {σ : L2.St} {ρ : Rho} {ds : List D} (en : EnvR K F O H σ ρ) (hi : ρ[i]? = some (some (.ow (.list ds)))) : ∃ a xs, σ[i]? = some (some (.ref a)) ∧ ¬ F.O0 a ∧ H a = some (.lst xs) ∧ DrA K O H xs ds := by
  obtain ⟨a, xs, ds', e, h1, h2, h3, h4, h5⟩ := en.ow hi
  cases e
  exact ⟨a, xs, h1, h3, h4, h5⟩
theorem sns_put {ix : Ex} {eix : Expr} {po ps : Pos} (he : SE X Γ ec W e v) (hn : nb e = true)
    (hs : swapsWithSole [.Subscript (.Name x po) eix ps] v pos.line X.env = pure false) (hw : swappedStores [.Subscript (.Name x po) eix ps] v X.env = pure none) (pg : PG X (.Subscript (.Name x po) eix ps) (gSub (tVar i) (tE X.K Γ ec W ix) rSetL)) :
    PS X (.Assign [.Subscript (.Name x po) eix ps] v pos) (tS X.K Γ ec W (.put i ix e)) := by
  refine PS.conseq (ps_asg he pg hs hw rfl) fun D σ H h => ?_
  obtain ⟨F, O, ρ, k, en, w, kn⟩ := h
  unfold wpS at w
  refine ⟨F, O, ρ, _, _, en, w, fun y hy u H1 s1 r1 => ?_, kn.er1 en⟩
  have en1 := en.stp s1
  obtain ⟨ds, hi, hy⟩ := owL_iff hy
  obtain ⟨a, xs, g1, g2, g3, g4⟩ := en1.owS hi
  refine ⟨.ref a, g1, F, O, ρ, _, _, en1, hy, fun z hz uz H2 s2 r2 => ?_, (kn.er1 en).next s1⟩
  obtain ⟨z, rfl, hz⟩ := intQ_iff hz
  obtain ⟨j, hj, hz⟩ := optQ_iff hz
  have en2 := en1.stp s2
  refine ⟨a, xs, z, j, rfl, r2.b.int, s2.keep _ _ (en1.ndo g2) g3, by rw [g4.length]; exact hj, ?_⟩
  exact kn.nx _ hz O _ _ (en2.mut hi g1 ((g4.stp en1 s2).set j ((r1.n hn).stp en1 s2)))
/-- an item read, for a change of it -/
def rGetL (K : PySem.W.Frag) : V → V → Hp → VK → Prop := fun o i H Q => ∃ p xs k v, o = .ref p ∧ i = .int k ∧ SqL K H p xs ∧ atI xs k = some v ∧ Q v H
theorem get_list : PGet X (rGetL X.K) := by
  intro pins s σ H o i ov iv Q I ro ri h
  obtain ⟨p, xs, k, z, rfl, rfl, hq, he, q⟩ := h
  cases ro
  obtain ⟨t, rfl⟩ := ri
  obtain ⟨its, r, pl, hz⟩ := I.list hq
  obtain ⟨j, h1, h2, h3, h4, h5⟩ := atI_get he
  obtain ⟨w, ew, rw'⟩ := r.get h2
  have hl := r.length
  have hn := line63
  have fin : EP X pins σ Q w s := ⟨z, H, I, rw', q⟩
  by_cases h0 : 0 ≤ k
  · have hj : k.toNat = j := by
      rw [seqIndex_of h0 h5] at h1
      exact Option.some.inj h1
    exact wpAny_getItem_list pl.isList h0 (by omega) (by rw [hj]; simpa using ew) fin
  · have hj : (k + (its.toArray.size : Int)).toNat = j := by
      rw [seqIndex_neg (by omega) h4] at h1
      rw [List.size_toArray, ← hl]
      exact Option.some.inj h1
    exact wpAny_getItem_list_neg pl.isList (by omega) (by rw [List.size_toArray] <;> omega) (by omega) (by rw [hj]; simpa using ew) fin
theorem sns_augp {ix : Ex} {eix : Expr} {po ps : Pos} {op : Operator} (hN : X.N[i]? = some x) (hv : Vis X.env.scope x) (hd : (x == ("__debug__" : Str)) = false) (hcd : (x == ("__classdict__" : Str)) = false) (hix : SE X Γ ec W ix eix) (he : SE X Γ ec W e v)
    (ha : ∀ ov iv new, augStore eix ov iv new = (do holding [new, ov, iv] (setItem ov iv new); release [new, ov, iv] []; pure .next)) :
    PS X (.AugAssign (.Subscript (.Name x po) eix ps) op v pos) (tS X.K Γ ec W (.augp i ix op e)) := by
  refine PS.conseq (ps_augS (pe_var hN hv hd hcd) hix get_list he (ip_F op) set_list ha) fun D σ H h => ?_
  obtain ⟨F, O, ρ, k, en, w, kn⟩ := h
  unfold wpS at w
  obtain ⟨ds, hi, w⟩ := owL_iff w
  obtain ⟨a, xs, g1, g2, g3, g4⟩ := en.owS hi
  refine ⟨.ref a, g1, F, O, ρ, _, _, en, w, fun z hz uz H1 s1 r1 => ?_, kn.er1 en⟩
  obtain ⟨z, rfl, hz⟩ := intQ_iff hz
  obtain ⟨d, hd, hz⟩ := optQ_iff hz
  have en1 := en.stp s1
  have g3' := s1.keep _ _ (en.ndo g2) g3
  have g4' := g4.stp en s1
  obtain ⟨w1, e1, e2⟩ := g4'.atI hd
  refine ⟨a, xs, z, w1, rfl, r1.b.int, SqL.of g3', e1, F, O, ρ, _, _, en1, hz, fun y hy u H2 s2 r2 => ?_, (kn.er1 en).next s1⟩
  obtain ⟨p, q, rfl, rfl⟩ := augF_int hy
  cases e2
  refine ⟨p, q, _, rfl, r2.b.int, hy, fun r hr => ?_⟩
  obtain ⟨j, hj, hr⟩ := optQ_iff hr
  have en2 := en1.stp s2
  refine ⟨a, xs, z, j, rfl, r1.b.int, s2.keep _ _ (en1.ndo g2) g3', by rw [g4.length]; exact hj, ?_⟩
  exact kn.nx _ hr O _ _ (en2.mut hi g1 ((g4'.stp en1 s2).set j (.int r)))
/-! methods that change a list -/
theorem few1 {cp : Pos} (hs : starred v = false) : ((backTo cp (starEach [v] X.env)).all (fun x => !x.1) && (backToKw cp (keywordEach [] X.env)).all (fun x => x.1.isSome)
      && decide (([v] : List Expr).length + ([] : List Keyword).length + (if ([] : List Keyword).isEmpty then 0 else 1) < 30)) = true := by
  rw [star_cons hs]
  rfl
theorem sns_app {po ap cp : Pos} (hN : X.N[i]? = some x) (hv : Vis X.env.scope x) (hd : (x == ("__debug__" : Str)) = false) (hcd : (x == ("__classdict__" : Str)) = false) (he : SE X Γ ec W e v) (hn : nb e = true) (hs : starred v = false) (hl : (ap.endLine == cp.line) = true) :
    PS X (.Expr (.Call (.Attribute (.Name x po) "append" ap) [v] [] cp) pos) (tS X.K Γ ec W (.app i e)) := by
  refine PS.conseq (ps_expr (pe_bm PySem.F.plainAttrs_list PySem.F.slot_list_append PySem.F.type_list_append mt_append (pe_var hN hv hd hcd) (pa_cons he pa_nil (star_cons hs)) rfl (few1 hs) hl (star_cons hs) rfl) rfl) fun D σ H h => ?_
  obtain ⟨F, O, ρ, k, en, w, kn⟩ := h
  unfold wpS at w
  obtain ⟨ds, hi, w⟩ := owL_iff w
  obtain ⟨a, xs, g1, g2, g3, g4⟩ := en.owS hi
  refine ⟨.ref a, g1, .inl ⟨rfl, _, SqL.of g3⟩, F, O, ρ, _, _, en, w, fun y hy u H1 s1 r1 => ?_, kn.er1 en⟩
  refine ⟨a, xs, u, rfl, rfl, s1.keep _ _ (en.ndo g2) g3, by rw [g4.length]; exact hy.1, ?_⟩
  exact kn.nx _ hy.2 O _ _ ((en.stp s1).mut hi g1 ((g4.stp en s1).append (.cons (r1.n hn) .nil)))
theorem sns_ext {po ap cp : Pos} (hN : X.N[i]? = some x) (hv : Vis X.env.scope x) (hd : (x == ("__debug__" : Str)) = false) (hcd : (x == ("__classdict__" : Str)) = false) (he : SE X Γ ec W e v) (hn : nb e = true) (hs : starred v = false) (hl : (ap.endLine == cp.line) = true) :
    PS X (.Expr (.Call (.Attribute (.Name x po) "extend" ap) [v] [] cp) pos) (tS X.K Γ ec W (.ext i e)) := by
  refine PS.conseq (ps_expr (pe_bm PySem.F.plainAttrs_list PySem.F.slot_list_extend PySem.F.type_list_extend mt_extend (pe_var hN hv hd hcd) (pa_cons he pa_nil (star_cons hs)) rfl (few1 hs) hl (star_cons hs) rfl) rfl) fun D σ H h => ?_
  obtain ⟨F, O, ρ, k, en, w, kn⟩ := h
  unfold wpS at w
  obtain ⟨ds, hi, w⟩ := owL_iff w
  obtain ⟨a, xs, g1, g2, g3, g4⟩ := en.owS hi
  refine ⟨.ref a, g1, .inl ⟨rfl, _, SqL.of g3⟩, F, O, ρ, _, _, en, w, fun y hy u H1 s1 r1 => ?_, kn.er1 en⟩
  obtain ⟨es, rfl, hy⟩ := lstQ_iff hy
  have hd := r1.n hn
  obtain ⟨b, ys, rfl, h1, h2⟩ := (BDr.of (N := F.O0) hd).lst
  refine ⟨a, b, xs, ys, rfl, rfl, s1.keep _ _ (en.ndo g2) g3, h1, by rw [g4.length, h2.length]; exact hy.1, ?_⟩
  exact kn.nx _ hy.2 O _ _ ((en.stp s1).mut hi g1 ((g4.stp en s1).append h2))
/-! insert, remove -/
theorem few2 {v2 : Expr} {cp : Pos} (hs : starred v = false) (hs2 : starred v2 = false) : ((backTo cp (starEach [v, v2] X.env)).all (fun x => !x.1) && (backToKw cp (keywordEach [] X.env)).all (fun x => x.1.isSome)
      && decide (([v, v2] : List Expr).length + ([] : List Keyword).length + (if ([] : List Keyword).isEmpty then 0 else 1) < 30)) = true := by
  rw [star_cons hs, star_cons hs2]
  rfl
theorem sns_ins {ix : Ex} {ei : Expr} {po ap cp : Pos} (hN : X.N[i]? = some x) (hv : Vis X.env.scope x) (hd : (x == ("__debug__" : Str)) = false) (hcd : (x == ("__classdict__" : Str)) = false) (hi : SE X Γ ec W ix ei) (he : SE X Γ ec W e v) (hn : nb e = true) (hsi : starred ei = false) (hs : starred v = false) (hl : (ap.endLine == cp.line) = true) :
    PS X (.Expr (.Call (.Attribute (.Name x po) "insert" ap) [ei, v] [] cp) pos) (tS X.K Γ ec W (.ins i ix e)) := by
  refine PS.conseq (ps_expr (pe_bm PySem.F.plainAttrs_list PySem.F.slot_list_insert PySem.F.type_list_insert mt_insert (pe_var hN hv hd hcd) (pa_cons hi (pa_cons he pa_nil (star_cons hs)) (star_cons hsi)) rfl (few2 hsi hs) hl (star_cons hsi) (by rw [star_cons hs]; rfl)) rfl) fun D σ H h => ?_
  obtain ⟨F, O, ρ, k, en, w, kn⟩ := h
  unfold wpS at w
  obtain ⟨ds, hi, w⟩ := owL_iff w
  obtain ⟨a, xs, g1, g2, g3, g4⟩ := en.owS hi
  refine ⟨.ref a, g1, .inl ⟨rfl, _, SqL.of g3⟩, F, O, ρ, _, _, en, w, fun z hz uz H1 s1 r1 => ?_, kn.er1 en⟩
  obtain ⟨z, rfl, hz⟩ := intQ_iff hz
  have en1 := en.stp s1
  refine ⟨F, O, ρ, _, _, en1, hz, fun y hy u H2 s2 r2 => ?_, (kn.er1 en).next s1⟩
  have en2 := en1.stp s2
  have g3' := (s1.trans s2).keep _ _ (en.ndo g2) g3
  have g4' := (g4.stp en s1).stp en1 s2
  refine ⟨a, xs, z, u, rfl, by rw [r1.b.int], g3', by rw [g4.length]; exact hy.1, hy.2.1, hy.2.2.1, ?_⟩
  exact kn.nx _ hy.2.2.2 O _ _ (en2.mut hi g1 (((g4'.take z.toNat).append (.cons (r2.n hn) .nil)).append (g4'.drop z.toNat)))
theorem vals_erase : ∀ {vs : List V} {us : List Value} (i : Nat), Vals vs us → Vals (vs.eraseIdx i) (us.eraseIdx i)
  | _, _, _, .nil => .nil
  | _, _, 0, .cons _ r => r
  | _, _, i + 1, .cons r1 r => .cons r1 (vals_erase i r)
theorem mt_remD (hu : X.A.units + 66 < cLine) : MtR X "list.remove" (fun x vs H Q => ∃ (l : Addr) (xs : List V) (y : V) (ds : List D) (d : D) (j : Nat), x = .ref l ∧ vs = [y] ∧ H l = some (.lst xs) ∧ DpAll X.K H xs ds ∧ Dp X.K H y d ∧ shp d ∧ shp (.list ds) ∧ dataPlace ds d = some j ∧
    Q .non (upd H l (.lst (xs.eraseIdx j)))) := by
  intro pins s σ H x vs v us Q I rx rv h
  obtain ⟨l, xs, y, ds, d, j, rfl, rfl, hH, h1, h2, sd, sl, hp, q⟩ := h
  cases rx
  cases rv with
  | cons r1 rr =>
    cases rr
    obtain ⟨z, its, n, r, hl, e⟩ := I.lstM hH
    obtain ⟨as, rs⟩ := Dp.readsAll I ds xs its h1 r
    obtain ⟨bs, rx⟩ := Dp.reads I d y _ h2 r1
    have pl := PyData.plainAll_of_canLay0 ds (by have := SeqAt.canLay_of_shaped sl; simpa only [PyData.canLay0] using this)
    have pd := PyData.plain_of_canLay0 d (SeqAt.canLay_of_shaped sd)
    refine remove_list_data (vs := its.toArray) ⟨_, e, rfl, n, rfl⟩ rs rx pl pd ?_ hp (by rw [List.size_toArray, ← r.length]; exact z) ?_
    · have := SeqAt.depth_of_shaped sd
      omega
    · refine ⟨.non, _, I.lset (its' := its.eraseIdx j) hH e ?_ ?_ ?_, rfl, q⟩
      · show its.toArray.eraseIdxIfInBounds j = _
        simp
      · exact vals_erase j r
      · have := List.length_eraseIdx_le xs j
        omega
theorem sns_rem {po ap cp : Pos} (hu : X.A.units + 66 < cLine) (hN : X.N[i]? = some x) (hv : Vis X.env.scope x) (hd : (x == ("__debug__" : Str)) = false) (hcd : (x == ("__classdict__" : Str)) = false) (he : SE X Γ ec W e v) (hn : nb e = true) (hs : starred v = false) (hl : (ap.endLine == cp.line) = true) :
    PS X (.Expr (.Call (.Attribute (.Name x po) "remove" ap) [v] [] cp) pos) (tS X.K Γ ec W (.rem i e)) := by
  refine PS.conseq (ps_expr (pe_bm PySem.F.plainAttrs_list PySem.F.slot_list_remove PySem.F.type_list_remove (mt_remD hu) (pe_var hN hv hd hcd) (pa_cons he pa_nil (star_cons hs)) rfl (few1 hs) hl (star_cons hs) rfl) rfl) fun D σ H h => ?_
  obtain ⟨F, O, ρ, k, en, w, kn⟩ := h
  unfold wpS at w
  obtain ⟨ds, hi, w⟩ := owL_iff w
  obtain ⟨a, xs, g1, g2, g3, g4⟩ := en.owS hi
  refine ⟨.ref a, g1, .inl ⟨rfl, _, SqL.of g3⟩, F, O, ρ, _, _, en, w, fun y hy u H1 s1 r1 => ?_, kn.er1 en⟩
  obtain ⟨h1, h2, h3⟩ := hy
  obtain ⟨j, hj, h3⟩ := optQ_iff h3
  have g4' := g4.stp en s1
  refine ⟨a, xs, u, ds, y, j, rfl, rfl, s1.keep _ _ (en.ndo g2) g3, DrA.dp _ _ g4', Dr.dp _ _ (r1.n hn), h1, h2, hj, ?_⟩
  exact kn.nx _ h3 O _ _ ((en.stp s1).mut hi g1 (g4'.eraseIdx j))
/-! dicts -/
theorem odL_iff {ρ : Rho} {P : List (NestedKey × D) → Prop} (h : odL ρ i P) : ∃ kvs, ρ[i]? = some (some (.od kvs)) ∧ P kvs := by
  unfold odL at h
  split at h
  · rename_i kvs q; exact ⟨kvs, q, h⟩
  · exact h.elim
def rSetN (K : PySem.W.Frag) : V → V → V → Hp → (Hp → Prop) → Prop := fun o i v H Q => ∃ (a b : Addr) (O : Addr → Prop) (xs : List EnV) (kvs : List (NestedKey × D)) (k : NestedKey), o = .ref a ∧ i = .ref b ∧ H a = some (dctO a xs) ∧ DV K O H xs kvs ∧ keyOkK k ∧ Dr K O H (.ref b) k.data ∧ xs.length < sizeLine ∧ Q (upd H a (dctO a (putX xs k b v)))
theorem set_dictN (hu : X.A.units + 66 < cLine) : PSet X (rSetN X.K) := by
  intro pins s σ H o i v ov iv u Q I ro ri rv h
  obtain ⟨a, b, O, xs, kvs, k, rfl, rfl, ha, dv, hk, hb, hz, q⟩ := h
  cases ro
  cases ri
  exact d_setN (by show X.A.units + 1 + 8 < cLine; omega) I ha dv hk hb rv hz fun s' I' => ⟨_, I', q⟩
theorem sns_dput {ke : Ex} {ek : Expr} {po ps : Pos} (he : SE X Γ ec W e v) (hn : nb e = true) (hnk : nb ke = true)
    (hs : swapsWithSole [.Subscript (.Name x po) ek ps] v pos.line X.env = pure false) (hw : swappedStores [.Subscript (.Name x po) ek ps] v X.env = pure none) (pg : PG X (.Subscript (.Name x po) ek ps) (gSub (tVar i) (tE X.K Γ ec W ke) (rSetN X.K))) :
    PS X (.Assign [.Subscript (.Name x po) ek ps] v pos) (tS X.K Γ ec W (.dput i ke e)) := by
  refine PS.conseq (ps_asg he pg hs hw rfl) fun D σ H h => ?_
  obtain ⟨F, O, ρ, k, en, w, kn⟩ := h
  unfold wpS at w
  refine ⟨F, O, ρ, _, _, en, w, fun y hy u H1 s1 r1 => ?_, kn.er1 en⟩
  have en1 := en.stp s1
  obtain ⟨kvs, hi, hy⟩ := odL_iff hy
  obtain ⟨a, xs, g1, g2, g3, g4, g5⟩ := en1.odAt hi
  refine ⟨.ref a, g1, F, O, ρ, _, _, en1, hy, fun z hz uz H2 s2 r2 => ?_, (kn.er1 en).next s1⟩
  obtain ⟨kk, hkk, hl, hz2⟩ := optQ_iff hz
  obtain ⟨e1, e2, ds, rfl⟩ := keyT_ok hkk
  have en2 := en1.stp s2
  have dk := r2.n hnk
  obtain ⟨b, rfl⟩ : ∃ b, uz = .ref b := by cases dk; exact ⟨_, rfl⟩
  have g5' : DV X.K O H2 xs kvs := Paired.mapP g5 fun x p q => ⟨q.1, q.2.1.stp en1 s2, q.2.2.stp en1 s2⟩
  have hdk : Dr X.K O H2 (.ref b) kk.data := by rw [e1]; exact dk
  refine ⟨a, b, O, xs, kvs, kk, rfl, rfl, s2.keep _ _ (en1.ndo g3) g4, g5', e2, hdk, by rw [dv_length g5]; exact hl, ?_⟩
  exact kn.nx _ hz2 O _ _ (en2.mutD hi g1 (dv_put g5' hdk ((r1.n hn).stp en1 s2)))
theorem pe_dnewN {p : Pos} : PE X (.Dict [] [] p) (fun σ H Q => ∀ q, H q = none → Q (.ref q) (upd H q (dctO q []))) := ⟨fun pins s σ H Q I h =>
  wpAny_Dict_empty ⟨.ref s.heap.objs.size, _, d_newN I, rfl, h _ (I.hok.fresh (Nat.le_refl _))⟩⟩
theorem sns_dnew {p : Pos} (nd : X.N.Nodup) (hN : X.N[i]? = some x) (hx : Loc X.env.scope x) (hf : X.fn x = true ∨ X.env.scope.names.lookup x = some .local) :
    PS X (.Assign [.Name x py] (.Dict [] [] p) pos) (tS X.K Γ ec W (.dnew i)) := by
  refine PS.conseq (ps_set nd hN hx pe_dnewN rfl hf) fun D σ H h => ?_
  obtain ⟨F, O, ρ, k, en, w, kn⟩ := h
  unfold wpS at w
  intro q hq
  exact kn.nx _ w _ _ _ (en.ownD (Stp.same en (same_upd hq)) hq ⟨[], upd_same, .nil⟩)
/-! the rest -/
theorem sns_expr (he : SE X Γ ec W e v) (hs : swapsWith v none pos.line X.env = pure false) : PS X (.Expr v pos) (tS X.K Γ ec W (.expr e)) := by
  refine PS.conseq (ps_expr he hs) fun D σ H h => ?_
  obtain ⟨F, O, ρ, k, en, w, kn⟩ := h
  unfold wpS at w
  exact ⟨F, O, ρ, _, _, en, w, fun y hy u H1 s1 r1 => kn.nx _ hy O _ H1 (en.stp s1), kn.er1 en⟩
theorem sns_ret (he : SE X Γ ec W e v) : PS X (.Return (some v) pos) (tS X.K Γ ec W (.ret e)) := by
  refine PS.conseq (ps_ret he) fun D σ H h => ?_
  obtain ⟨F, O, ρ, k, en, w, kn⟩ := h
  unfold wpS at w
  exact ⟨F, O, ρ, _, _, en, w, fun y hy u H1 s1 r1 => kn.rt _ hy O σ H1 ρ u (en.stp s1) (r1.b.low (en.stp s1)), kn.er1 en⟩
theorem sns_ife {c : Expr} {t : Ex} {a b : Sts} {sa sb : List Stmt} (ht : PT X c (tT X.K Γ ec W t)) (ha : PSs X sa (tSs X.K Γ ec W a)) (hb : PSs X sb (tSs X.K Γ ec W b)) : PS X (.If c sa sb pos) (tS X.K Γ ec W (.ife t a b)) := by
  refine PS.conseq (ps_if ht ha hb) fun D σ H h => ?_
  obtain ⟨F, O, ρ, k, en, w, kn⟩ := h
  unfold wpS at w
  refine ⟨F, O, ρ, _, _, en, w, fun d hd => ?_, kn.er1 en⟩
  obtain ⟨c, hc, q⟩ := optQ_iff hd
  refine ⟨c, hc, fun H1 s1 => ?_⟩
  cases c with
  | true =>
    rw [if_pos rfl] at q ⊢
    exact ⟨F, O, ρ, k, en.stp s1, q, kn⟩
  | false =>
    rw [if_neg Bool.false_ne_true] at q ⊢
    exact ⟨F, O, ρ, k, en.stp s1, q, kn⟩
theorem sns_nil : PSs X [] (tSs X.K Γ ec W .nil) := by
  refine PSs.conseq pss_nil fun D σ H h => ?_
  obtain ⟨F, O, ρ, k, en, w, kn⟩ := h
  unfold wpSs at w
  exact kn.nx _ w O σ H en
theorem sns_cons {s : DL.St} {ss : Sts} {st : Stmt} {sts : List Stmt} (h1 : PS X st (tS X.K Γ ec W s)) (h2 : PSs X sts (tSs X.K Γ ec W ss)) : PSs X (st :: sts) (tSs X.K Γ ec W (.cons s ss)) := by
  refine PSs.conseq (pss_cons h1 h2) fun D σ H h => ?_
  obtain ⟨F, O, ρ, k, en, w, kn⟩ := h
  unfold wpSs at w
  exact ⟨F, O, ρ, _, en, w, ⟨fun ρ' hn O' σ' H' en' => ⟨F, O', ρ', k, en', hn, kn⟩, kn.rt, kn.bk, kn.ct, kn.er⟩⟩
theorem Fm.at_O0 {F : Fm} {O : Addr → Prop} {H : Hp} : (F.at O H).O0 = F.O0 := rfl
theorem sns_loop {tg : Tg} {it : Ir} {body : Sts} {t i' : Expr} {sb : List Stmt} (hp : PassesOwn (model X.prog X.w) X.A X.env X.xe) (hc : X.calm = true) (hi : PI X t i' (tI X.K Γ ec W it)) (hg : PG X t (tG X.K tg)) (hb : PSs X sb (tSs X.K Γ ec W body)) (hn : nbI it = true)
    (hs : ∀ x, foldedSetIterable i' X.env x = pure x) : PS X (.For t i' sb [] pos) (tS X.K Γ ec W (.loop tg it body)) := by
  refine PS.conseq (ps_for hp hc hi hg hb hs) fun D σ H h => ?_
  obtain ⟨F, O, ρ, k, en, w, kn⟩ := h
  unfold wpS at w
  refine ⟨F, O, ρ, _, _, en, w, fun ds hds J H1 s1 wk => ?_, kn.er1 en⟩
  have en1 := en.stp s1
  obtain ⟨G, Y, walk, hGR, hY⟩ := wk.2 hn
  generalize hst : (fun (d : PyData) (ρ1 : Rho) (kk : Rho → Prop) => bindT tg d ρ1 fun ρ2 => wpSs Γ body ρ2 { k with nx := kk, ct := kk, bk := k.nx }) = step at hds
  have later : ∀ {O2 : Addr → Prop} {H2 : Hp} {σ2 : L2.St} {ρ2 : Rho}, EnvR X.K (F.at O H1) O2 H2 σ2 ρ2 → Rf O H1 O2 H2 := fun e2 b o n q => en1.stood e2 n q
  have kn' : Kon X.K ec W (F.at O H1) k D := ⟨fun ρ' h O' σ' H' e' => kn.nx ρ' h O' σ' H' (en1.back e'), fun d h O' σ' H' ρ' v e' hd => kn.rt d h O' σ' H' ρ' v (en1.back e') hd, fun ρ' h O' σ' H' e' => kn.bk ρ' h O' σ' H' (en1.back e'),
    fun ρ' h O' σ' H' e' => kn.ct ρ' h O' σ' H' (en1.back e'), fun x ρ' h O' σ' H' e' => kn.er x ρ' h O' σ' H' (en1.back e')⟩
  refine for_it walk (fun i σ' H' => ∃ O' ρ', EnvR X.K (F.at O H1) O' H' σ' ρ' ∧ forW step (ds.drop i) ρ' k.nx) ⟨O, ρ, en1.into, by rw [List.drop_zero]; exact hds⟩ ?_ ?_ ?_
  · rintro i σ' H' _ ⟨O', ρ', e2, _⟩
    exact hGR _ _ (later e2)
  · rintro i x σ' H' H'' hi' ⟨O', ρ', e2, hf⟩ y
    obtain ⟨sm, d, hd, hdr⟩ := hY _ _ i x H'' (later e2) e2.dom hi' y
    have e3 := e2.stp (Stp.same e2 sm)
    have edrop : ds.drop i = d :: ds.drop (i + 1) := by
      obtain ⟨h1, h2⟩ := List.getElem?_eq_some_iff.mp hd
      rw [List.drop_eq_getElem_cons h1, h2]
    rw [edrop] at hf
    unfold forW at hf
    have hf' : bindT tg d ρ' fun ρ2 => wpSs Γ body ρ2 { k with nx := fun ρ'' => forW step (ds.drop (i + 1)) ρ'' k.nx, ct := fun ρ'' => forW step (ds.drop (i + 1)) ρ'' k.nx, bk := k.nx } := by
      rw [← hst] at hf ⊢
      exact hf
    refine ⟨F.at O H1, O', ρ', d, _, e3, hdr, hf', fun ρ1 h1 σ1 on e4 => ?_⟩
    exact ⟨F.at O H1, O', ρ1, _, e4, h1, ⟨fun ρ2 h2 O2 σ2 H2 e5 => ⟨O2, ρ2, e5, h2⟩, kn'.rt, kn'.nx, fun ρ2 h2 O2 σ2 H2 e5 => ⟨O2, ρ2, e5, h2⟩, kn'.er⟩⟩
  · rintro σ' H' ⟨O', ρ', e2, hf⟩
    rw [List.drop_length] at hf
    exact kn'.nx ρ' hf O' σ' H' e2
theorem sns_whl {t : Ex} {c : Expr} {body : Sts} {sb : List Stmt} (hp : PassesOwn (model X.prog X.w) X.A X.env X.xe) (ht : PT X c (tT X.K Γ ec W t)) (hb : PSs X sb (tSs X.K Γ ec W body)) : PS X (.While c sb [] pos) (tS X.K Γ ec W (.whl t body)) := by
  refine PS.conseq (ps_while hp ht hb) fun D σ H h => ?_
  obtain ⟨F, O, ρ, k, en, w, kn⟩ := h
  unfold wpS at w
  obtain ⟨I, ⟨m0, h0⟩, turn⟩ := w
  refine ⟨fun m σ' H' => ∃ O' ρ', EnvR X.K F O' H' σ' ρ' ∧ I m ρ', ⟨m0, O, ρ, en, h0⟩, ?_⟩
  rintro m σ' H' ⟨O', ρ', e2, hI⟩
  refine ⟨F, O', ρ', _, _, e2, turn m ρ' hI, fun d hd => ?_, kn.er1 e2⟩
  obtain ⟨c, hc, q⟩ := optQ_iff hd
  refine ⟨c, hc, fun H1 s1 => ?_⟩
  cases c with
  | true =>
    rw [if_pos rfl] at q ⊢
    refine ⟨fun σ2 H2 => ∃ O2 ρ2, EnvR X.K F O2 H2 σ2 ρ2 ∧ ∃ m', m' < m ∧ I m' ρ2, ?_, ?_⟩
    · rintro σ2 H2 ⟨O2, ρ2, e3, m', hm, hI'⟩
      exact ⟨m', hm, O2, ρ2, e3, hI'⟩
    · exact ⟨F, O', ρ', _, e2.stp s1, q, ⟨fun ρ2 h2 O2 σ2 H2 e5 => ⟨O2, ρ2, e5, h2⟩, kn.rt, kn.nx, fun ρ2 h2 O2 σ2 H2 e5 => ⟨O2, ρ2, e5, h2⟩, kn.er⟩⟩
  | false =>
    rw [if_neg Bool.false_ne_true] at q ⊢
    exact kn.nx ρ' q O' σ' H1 (e2.stp s1)
theorem sns_brk : PS X (.Break pos) (tS X.K Γ ec W .brk) := by
  refine PS.conseq ps_break fun D σ H h => ?_
  obtain ⟨F, O, ρ, k, en, w, kn⟩ := h
  unfold wpS at w
  exact kn.bk ρ w O σ H en
theorem sns_cnt : PS X (.Continue pos) (tS X.K Γ ec W .cnt) := by
  refine PS.conseq ps_continue fun D σ H h => ?_
  obtain ⟨F, O, ρ, k, en, w, kn⟩ := h
  unfold wpS at w
  exact kn.ct ρ w O σ H en
theorem sns_pss : PS X (.Pass pos) (tS X.K Γ ec W .pss) := by
  refine PS.conseq ps_pass fun D σ H h => ?_
  obtain ⟨F, O, ρ, k, en, w, kn⟩ := h
  unfold wpS at w
  exact kn.nx ρ w O σ H en
theorem sns_retn : PS X (.Return none pos) (tS X.K Γ ec W .retn) := by
  refine PS.conseq ps_retN fun D σ H h => ?_
  obtain ⟨F, O, ρ, k, en, w, kn⟩ := h
  unfold wpS at w
  exact kn.rt _ w O σ H ρ _ en .non
theorem sns_dead {st : Stmt} : PS X st (tS X.K Γ ec W .dead) := ⟨fun pins s σ H D I h => by
  obtain ⟨F, O, ρ, k, en, w, kn⟩ := h
  unfold wpS at w
  exact w.elim⟩
theorem sns_rais {C : Addr} {m : Str} {j : Nat} {p p2 pp : Pos} (hc : X.calm = true) (tk : Takes X W) (hm : X.mg x = some (.ref C)) (he : ec x = .ref C) (q : PySem.W.excIn X.K C [.type "ValueError", .type "Exception", .type "BaseException", .type "object"] "ValueError.__new__" = true) (kC : PySem.W.keepIn X.K (.ref C) = true)
    (r : Raises X (.ref C)) (hg : Gl X x) (hdb : (x == ("__debug__" : Str)) = false) : PS X (.Raise (some (.Call (.Name x p) [.Constant (.str m) j p2] [] pp)) none pos) (tS X.K Γ ec W (.rais x)) := by
  refine PS.conseq (ps_raise hc tk (pmk_own PySem.F.excBase_ValueError q hm kC r hg hdb)) fun D σ H h => ?_
  obtain ⟨F, O, ρ, k, en, w, kn⟩ := h
  unfold wpS at w
  have := kn.er x ρ w O σ H en
  rw [he] at this
  exact this
end
end DL

set_option Elab.async false
set_option linter.all false
set_option maxRecDepth 100000
set_option maxHeartbeats 16000000
namespace DL
open PySem PySem.Spec PyProof.Rows L2

section
variable {X : Cx} {G : Glb} {S : Sx} {Γ : Gam} {ec : Str → Value} {W : WX} {e : Ex} {v : Expr} {pos py : Pos} {i : Nat} {x : Str}
/-! how a value is stored -/
theorem sw_no {v : Expr} {t : Option Expr} {l : Nat} {env : Env} (h : isCmp v = false) : swapsWith v t l env = pure false := by
  cases v <;> first | rfl | (simp [isCmp] at h)
theorem sw_sole {v t : Expr} {l : Nat} {env : Env} (h : isCmp v = false) : swapsWithSole [t] v l env = pure false := sw_no h
def isTupE : Expr → Bool
  | .Tuple _ _ _ => true
  | _ => false
theorem ss_no {v : Expr} {es : List Expr} {k : Nat} {p : Pos} {env : Env} (h : isTupE v = false) : swappedStores [.Tuple es k p] v env = pure none := by
  cases v <;> first | rfl | (simp [isTupE] at h)
theorem ss_sub {v o ix : Expr} {p : Pos} {env : Env} : swappedStores [.Subscript o ix p] v env = pure none := by
  cases v <;> rfl
theorem ss_form {es vs : List Expr} {k k2 : Nat} {p p2 : Pos} {env : Env} (hsc : env.scope = S.sc) (hk : S.sc.kind = .function) : swappedStores [.Tuple es k p] (.Tuple vs k2 p2) env =
    (if (!(es.length == 2 || es.length == 3) || vs.length != es.length) = true then pure none else if (vs.any isStar) = true then pure none
      else if ((swNames S.sc es).length != es.length || (swNames S.sc es).eraseDups.length != (swNames S.sc es).length) = true then pure none
      else if vs.all (foldedForSure 8) = true then pure none else if vs.all (constantsAlone 8) = true then (do unsupported "assign.tuple-of-constant-expressions:order-of-the-stores"; pure (some (swNames S.sc es))) else pure (some (swNames S.sc es))) := by
  have hb : env.blockKind = .function := by unfold Env.blockKind; rw [hsc, hk]; rfl
  have hkd : ∀ x, env.kindOf x = S.sc.names.lookup x := fun x => by unfold Env.kindOf; rw [hsc]
  have hn : swNames S.sc es = es.filterMap fun
    | .Name id pos => if env.kindOf id == some .local && pos.line == swLine es then some id else none
    | _ => none := by
    unfold swNames
    congr 1
    funext e
    cases e <;> first | rfl | (simp only [hkd])
  rw [hn]
  unfold swappedStores
  rw [hb]
  have e0 : (ScopeKind.function != ScopeKind.function) = false := rfl
  simp only [e0, Bool.or_false]
  rfl
theorem ss_noswap {v : Expr} {es : List Expr} {k : Nat} {p : Pos} {env : Env} (hsc : env.scope = S.sc) (hk : S.sc.kind = .function) (h : noswap S es v = true) : swappedStores [.Tuple es k p] v env = pure none := by
  cases v with
  | Tuple vs k2 p2 =>
    rw [ss_form hsc hk]
    unfold noswap at h
    by_cases h1 : (!(es.length == 2 || es.length == 3) || vs.length != es.length) = true
    · rw [if_pos h1]
    · rw [if_neg h1]
      by_cases h2 : (vs.any isStar) = true
      · rw [if_pos h2]
      · rw [if_neg h2]
        by_cases h3 : ((swNames S.sc es).length != es.length || (swNames S.sc es).eraseDups.length != (swNames S.sc es).length) = true
        · rw [if_pos h3]
        · rw [if_neg h3]
          by_cases h4 : vs.all (foldedForSure 8) = true
          · rw [if_pos h4]
          · exfalso
            rw [Bool.or_eq_true, Bool.or_eq_true, Bool.or_eq_true] at h
            rcases h with ((h | h) | h) | h
            · exact h1 h
            · exact h2 h
            · exact h3 h
            · exact h4 h
  | _ => exact ss_no rfl
theorem ss_swap {ts : Tgs} {es : List Expr} {k : Nat} {p : Pos} {env : Env} (hsc : env.scope = S.sc) (hk : S.sc.kind = .function) (h : swap2 S ts es e v = true) :
    ∃ (i j : Nat) (x y : Str) (px py : Pos) (a b : Ex) (ea eb : Expr) (k2 : Nat) (p2 : Pos), ts = .cons (.n i) (.cons (.n j) .nil) ∧ es = [.Name x px, .Name y py] ∧ e = .tup (.cons a (.cons b .nil)) ∧ v = .Tuple [ea, eb] k2 p2 ∧ i ≠ j ∧ S.sc.names.lookup x = some .local ∧ S.sc.names.lookup y = some .local ∧
      starred ea = false ∧ starred eb = false ∧ swappedStores [.Tuple es k p] v env = pure (some [x, y]) := by
  unfold swap2 at h
  split at h
  · rename_i i j x px y py a b ea eb k2 p2
    simp only [Bool.and_eq_true, decide_eq_true_eq] at h
    obtain ⟨⟨⟨⟨⟨⟨⟨⟨h1, h2⟩, h3⟩, h4⟩, h5⟩, h6⟩, h7⟩, h8⟩, h9⟩ := h
    refine ⟨i, j, x, y, px, py, a, b, ea, eb, k2, p2, rfl, rfl, rfl, rfl, h5, h1, h2, by simpa using h6, by simpa using h7, ?_⟩
    rw [ss_form hsc hk, h3]
    have s1 : isStar ea = false := by cases ea <;> first | rfl | (simp [starred] at h6)
    have s2 : isStar eb = false := by cases eb <;> first | rfl | (simp [starred] at h7)
    have h8' : ([ea, eb].all (foldedForSure 8)) = false := by rw [Bool.not_eq_true'] at h8; exact h8
    have h9' : ([ea, eb].all (constantsAlone 8)) = false := by rw [Bool.not_eq_true'] at h9; exact h9
    rw [if_neg (by simp), if_neg (by simp [s1, s2]), if_neg (by rw [h4]; simp), if_neg (by rw [h8']; decide), if_neg (by rw [h9']; decide)]
  · cases h
/-! try -/
def constV : D → V
  | .int i => .int i
  | .bool b => .bl b
  | .str s => .str s
  | _ => .non
theorem pe_const {X : Cx} {d : D} (hc : constD e = some d) (h : mtE Γ S e v = true) : PE X v (L2.tC (constV d)) ∧ ∀ K O H, Dr K O H (constV d) d := by
  cases e with
  | int i =>
    cases v with
    | Constant c k p =>
      cases c with
      | int j => simp only [mtE, decide_eq_true_eq] at h; subst h; cases hc; exact ⟨pe_int, fun _ _ _ => .int i⟩
      | _ => simp [mtE] at h
    | _ => simp [mtE] at h
  | bl i =>
    cases v with
    | Constant c k p =>
      cases c with
      | bool j => simp only [mtE, beq_iff_eq] at h; subst h; cases hc; exact ⟨pe_bl, fun _ _ _ => .bl i⟩
      | _ => simp [mtE] at h
    | _ => simp [mtE] at h
  | non =>
    cases v with
    | Constant c k p =>
      cases c with
      | none => cases hc; exact ⟨pe_non, fun _ _ _ => .non⟩
      | _ => simp [mtE] at h
    | _ => simp [mtE] at h
  | str i =>
    cases v with
    | Constant c k p =>
      cases c with
      | str j => simp only [mtE, decide_eq_true_eq] at h; subst h; cases hc; exact ⟨pe_str, fun _ _ _ => .str i⟩
      | _ => simp [mtE] at h
    | _ => simp [mtE] at h
  | _ => simp [constD] at hc
theorem sns_try {body : Sts} {c : Ex} {d : D} {sb : List Stmt} {np p1 p2 : Pos} {r : Expr} {cx : Addr} (hs : X.stack = X.env :: X.outer) (hf : X.env.frame = some X.env.locals) (tk : Takes X W) (hm : X.mg x = some (.ref cx)) (hec : ec x = .ref cx) (hg : Gl X x) (hdb : (x == ("__debug__" : Str)) = false)
    (hone : ∀ y ∈ Γ.exs, PySem.W.exmOne X.K (ec y) (ec x) = some (decide (y = x)))
    (hb : ∀ (W2 : WX) (pn : List (Addr × Obj)) (xe : Value → Shared → Prop), Takes (X.tr pn xe) W2 → PassesOwn (model X.prog X.w) X.A X.env xe → PSs (X.tr pn xe) sb (tSs X.K Γ ec W2 body))
    (hd : constD c = some d) (hr : mtE Γ S c r = true) :
    PS X (.Try sb [.ExceptHandler (some (.Name x np)) none [.Return (some r) p1] p2] [] [] pos) (tS X.K Γ ec W (.try1 body x c)) := by
  refine PS.conseq (ps_try_only (ts := fun _ _ _ => tRet (L2.tC (constV d))) hs hf (c := .ref cx) ⟨hg, hdb, .inl hm⟩ tk hb (fun a oe cls dd pn _ _ => pss_one (ps_ret (pe_const hd hr).1))) fun D σ H h => ?_
  obtain ⟨F, O, ρ, k, en, w, kn⟩ := h
  unfold wpS at w
  refine ⟨F, O, ρ, _, en, w, ⟨kn.nx, kn.rt, kn.bk, kn.ct, fun y ρ' hy O' σ' H' en' => ?_⟩⟩
  obtain ⟨hy1, hy2⟩ := hy
  have h1 := hone y hy1
  rw [hec] at h1
  refine ⟨decide (y = x), h1, fun b a na => ?_, fun b => ?_⟩
  · rw [if_pos (of_decide_eq_true b)] at hy2
    rw [hd] at hy2
    exact kn.rt d hy2 O' σ' H' ρ' _ en' ((pe_const (X := X) hd hr).2 _ _ _)
  · rw [if_neg (of_decide_eq_false b)] at hy2
    exact kn.er y ρ' hy2 O' σ' H' en'
end
section
variable {G : Glb}
theorem isFrz_of {s : DL.St} (h : isFrz s = true) : ∃ i, s = .frz i := by
  cases s <;> first | (simp [isFrz] at h; done) | exact ⟨_, rfl⟩
theorem any_of {f : Str} {l : List Str} (h : (l.any fun g => decide (g = f)) = true) : f ∈ l := by
  rw [List.any_eq_true] at h
  obtain ⟨x, h1, h2⟩ := h
  have e := of_decide_eq_true h2
  subst e
  exact h1
theorem AtS.slot {S : Sx} {X : Cx} (h : AtS G S X) {i : Nat} {x : Str} {p : Pos} (q : slotB S i (.Name x p) = true) : X.N[i]? = some x ∧ Loc X.env.scope x ∧ (X.fn x = true ∨ X.env.scope.names.lookup x = some .local) ∧ Vis X.env.scope x ∧ (x == ("__debug__" : Str)) = false ∧ (x == ("__classdict__" : Str)) = false := by
  simp only [slotB, Bool.and_eq_true, decide_eq_true_eq] at q
  obtain ⟨⟨q1, q2⟩, q3⟩ := q
  obtain ⟨l1, l2⟩ := locB_of q2
  obtain ⟨n1, n2⟩ := nm_of q3
  rw [← h.at_.sc] at l1 l2
  rw [← h.at_.fn] at l2
  exact ⟨by rw [h.at_.N]; exact q1, l1, l2, l1.elim .inl fun z => .inr (.inl z), n1, n2⟩
theorem slotB_name {S : Sx} {i : Nat} {o : Expr} (h : slotB S i o = true) : ∃ x p, o = .Name x p := by
  cases o with
  | Name x p => exact ⟨x, p, rfl⟩
  | _ => simp [slotB] at h
theorem aug_ok {e : Expr} (h : isSlice e = false) : ∀ ov iv new, augStore e ov iv new = (do holding [new, ov, iv] (setItem ov iv new); release [new, ov, iv] []; pure .next) := by
  intro ov iv new
  cases e <;> first | rfl | (simp [isSlice] at h)
theorem AtS.tr {S : Sx} {X : Cx} (h : AtS G S X) (pn : List (Addr × Obj)) (xe : Value → Shared → Prop) (hp : PassesOwn (model X.prog X.w) X.A X.env xe) : AtS G S (X.tr pn xe) where
  at_ := ⟨⟨h.at_.ok.prog, h.at_.ok.w, h.at_.ok.K, h.at_.ok.mg, h.at_.ok.base, h.at_.ok.calm, h.at_.ok.room, h.at_.ok.nd⟩, h.at_.N, h.at_.sc, h.at_.fn⟩
  stk := h.stk
  frm := h.frm
  kind := h.kind
  psn := hp
/-- name = e, whatever the expression -/
theorem snd_asg (g : GOk G) {S : Sx} {X : Cx} {W : WX} (h : AtS G S X) (tk : Takes X W) (o : Bool) {i : Nat} {x : Str} {py : Pos} {e : Ex} {v : Expr} {pos : Pos} (hs : slotB S i (.Name x py) = true) (he : mtE G.Γ S e v = true) (hn : nb e = true) (hf : o = true → frs e = true) (ha : asgB S x py v = true) :
    PS X (.Assign [.Name x py] v pos) (tS X.K G.Γ G.ec W (if o = true then .own i e else .set i e)) := by
  obtain ⟨s1, s2, s3, s4, s5, s6⟩ := h.slot hs
  have i1 := sndE g e v X S W h.at_ tk he
  have plain : swapsWith v (some (.Name x py)) pos.line X.env = pure false → PS X (.Assign [.Name x py] v pos) (tS X.K G.Γ G.ec W (if o = true then .own i e else .set i e)) := fun q => by
    cases o with
    | true => exact sns_own h.at_.ok.nd s1 s2 s3 i1.pe (hf rfl) q
    | false => exact sns_set h.at_.ok.nd s1 s2 s3 i1.pe hn q
  by_cases hc : isCmp v = false
  · exact plain (sw_no hc)
  · cases v with
    | ListComp xe gs scope p2 =>
      unfold asgB at ha
      simp only at ha
      split at ha
      · rename_i hl
        rw [Bool.and_eq_true] at ha
        have hy : X.env.scope.names.lookup x = some .local := by rw [h.at_.sc]; exact hl
        have hsw : swapsWith (.ListComp xe gs scope p2) (some (.Name x py)) pos.line X.env = pure true := sw_true (by rw [h.at_.sc]; exact h.kind) hy ha.1 (by simpa using ha.2)
        cases e with
        | comp own elt tg it ifs =>
          match gs, he, hsw with
          | [], he, _ => simp [mtE] at he
          | [⟨_, _, _, _⟩, ⟨_, _, _, _⟩], he, _ => simp [mtE] at he
          | _ :: _ :: _ :: _, he, _ => simp [mtE] at he
          | [⟨t, i', cs, n⟩], he, hsw =>
            simp only [mtE, Bool.and_eq_true, decide_eq_true_eq] at he
            obtain ⟨⟨⟨⟨⟨⟨⟨rfl, h1⟩, h2⟩, h3⟩, h4⟩, h5⟩, h6⟩, h7⟩ := he
            have h1' : blkC X.N X.env.scope scope own = true := by rw [h.at_.N, h.at_.sc]; exact h1
            exact sns_setLc o h.at_.ok.calm h.at_.ok.nd s1 hy hsw (sndI g it i' t X S W h.at_ tk tg (blkS S scope) h3 h4) (blkOk_by h1') (own_of h2) h6
              (fun s H C cl fp => (h.at_.blk s H scope C cl fp).tgt h3)
              (fun s H C cl fp => sndC g ifs cs _ _ _ (h.at_.blk s H scope C cl fp) takes0 h7)
              (fun s H C cl fp => (sndE g elt xe _ _ _ (h.at_.blk s H scope C cl fp) takes0 h5).pe)
              (foldS (mtI_set h4))
        | comp2 own elt tg it ifs tg1 it1 ifs1 =>
          match gs, he, hsw with
          | [], he, _ => simp [mtE] at he
          | [⟨_, _, _, _⟩], he, _ => simp [mtE] at he
          | _ :: _ :: _ :: _, he, _ => simp [mtE] at he
          | [⟨t, i', cs, n⟩, ⟨t1, i1', cs1, n1⟩], he, hsw =>
            simp only [mtE, Bool.and_eq_true, decide_eq_true_eq] at he
            obtain ⟨⟨⟨⟨⟨⟨⟨⟨⟨⟨⟨⟨⟨rfl, rfl⟩, h1⟩, h2⟩, h3⟩, h4⟩, h5⟩, h6⟩, h7⟩, h8⟩, h9⟩, h10⟩, h11⟩, h12⟩ := he
            have h1' : blkC X.N X.env.scope scope own = true := by rw [h.at_.N, h.at_.sc]; exact h1
            exact sns_setLc2 o h.at_.ok.calm h.at_.ok.nd s1 hy hsw (sndI g it i' t X S W h.at_ tk tg (blkS S scope) h4 h5) (blkOk_by h1') (own_of h2) (own_of h3) h12 h9
              (fun s H C cl fp => (h.at_.blk s H scope C cl fp).tgt h4)
              (fun s H C cl fp => sndC g ifs cs _ _ _ (h.at_.blk s H scope C cl fp) takes0 h6)
              (fun s H C cl fp => sndI g it1 i1' t1 _ (blkS S scope) _ (h.at_.blk s H scope C cl fp) takes0 tg1 (blkS S scope) h7 h8)
              (fun s H C cl fp => (h.at_.blk s H scope C cl fp).tgt h7)
              (fun s H C cl fp => sndC g ifs1 cs1 _ _ _ (h.at_.blk s H scope C cl fp) takes0 h10)
              (fun s H C cl fp => (sndE g elt xe _ _ _ (h.at_.blk s H scope C cl fp) takes0 h11).pe)
              (foldS (mtI_set h5)) (fun env => foldS (mtI_set h8))
        | _ => simp [mtE] at he
      · rename_i hl
        refine plain ?_
        have hk : X.env.kindOf x = some .cell := by unfold Env.kindOf; rw [h.at_.sc]; exact hl
        unfold swapsWith
        simp only [hk]
        have : (some NameKind.cell == some NameKind.local) = false := rfl
        rw [this]
        simp
      · cases ha
    | _ => exact absurd ha (by simp [asgB]; simpa using hc)
end
end DL

set_option Elab.async false
set_option linter.all false
set_option maxRecDepth 100000
set_option maxHeartbeats 16000000
namespace DL
open PySem PySem.Spec PyProof.Rows L2
theorem assign_sub {e : Expr} {x : Str} {po ps : Pos} {env : Env} (h : isSlice e = false) : ∀ v, assign (.Subscript (.Name x po) e ps) env v = (do
    let ov ← holding [v] (eval (.Name x po) env)
    let iv ← holding [v, ov] (eval e env)
    standAt ps
    holding [v, ov, iv] (setItem ov iv v)
    release [v, ov, iv] []) := by
  intro v
  cases e <;> first | rfl | (simp [isSlice] at h)
theorem raisOf_eq {ex cause : Option Expr} {x : Str} (h : raisOf ex cause = some x) : ∃ p m j p2 pp, ex = some (.Call (.Name x p) [.Constant (.str m) j p2] [] pp) ∧ cause = none := by
  unfold raisOf at h
  split at h
  · cases h
    exact ⟨_, _, _, _, _, rfl, rfl⟩
  · cases h
theorem tryOf_eq {hs : List ExceptHandler} {oe fb : List Stmt} {y : Str} {r : Expr} (h : tryOf hs oe fb = some (y, r)) : ∃ np p1 p2, hs = [.ExceptHandler (some (.Name y np)) none [.Return (some r) p1] p2] ∧ oe = [] ∧ fb = [] := by
  unfold tryOf at h
  split at h
  · cases h
    exact ⟨_, _, _, rfl, rfl, rfl⟩
  · cases h
set_option maxHeartbeats 64000000 in
mutual
theorem sndS {G : Glb} (g : GOk G) (eo : EOk G) : ∀ (s : DL.St) (st : Stmt) (X : Cx) (S : Sx) (W : WX), AtS G S X → Takes X W → mtS G.Γ S s st = true → PS X st (tS X.K G.Γ G.ec W s)
  | .set i e, st, X, S, W, a, tk, h => by
    cases st with
    | Assign ts v pos =>
      cases ts with
      | nil => simp [mtS] at h
      | cons t r =>
        cases r with
        | cons _ _ => cases t <;> simp [mtS] at h
        | nil =>
          cases t with
          | Name x py =>
            simp only [mtS, Bool.and_eq_true] at h
            exact snd_asg g a tk false h.1.1.1 h.1.1.2 h.1.2 (fun q => by cases q) h.2
          | _ => simp [mtS] at h
    | _ => simp [mtS] at h
  | .own i e, st, X, S, W, a, tk, h => by
    cases st with
    | Assign ts v pos =>
      cases ts with
      | nil => simp [mtS] at h
      | cons t r =>
        cases r with
        | cons _ _ => cases t <;> simp [mtS] at h
        | nil =>
          cases t with
          | Name x py =>
            simp only [mtS, Bool.and_eq_true] at h
            exact snd_asg g a tk true h.1.1.1.1 h.1.1.1.2 h.1.2 (fun _ => h.1.1.2) h.2
          | _ => simp [mtS] at h
    | _ => simp [mtS] at h
  | .unp ts e, st, X, S, W, a, tk, h => by
    cases st with
    | Assign tt v pos =>
      cases tt with
      | nil => simp [mtS] at h
      | cons t r =>
        cases r with
        | cons _ _ => cases t <;> simp [mtS] at h
        | nil =>
          cases t with
          | Tuple es kk tp =>
            simp only [mtS, Bool.and_eq_true, Bool.or_eq_true] at h
            obtain ⟨⟨⟨⟨h1, h2⟩, h3⟩, h4⟩, h5⟩ := h
            have hc : isCmp v = false := by simpa using h4
            rcases h5 with h5 | h5
            · obtain ⟨i, j, x, y, px, py, ea', eb', ea, eb, k2, p2, rfl, rfl, rfl, rfl, hij, hx, hy, sa, sb, hw⟩ := ss_swap (k := kk) (p := tp) (env := X.env) a.at_.sc a.kind h5
              simp only [mtTs, mtT, Bool.and_eq_true, decide_eq_true_eq] at h1
              simp only [mtE, mtX, Bool.and_eq_true] at h2
              simp only [nbX, Bool.and_eq_true] at h2
              refine sns_par a.at_.ok.calm a.at_.ok.nd (by rw [a.at_.N]; exact h1.1.1) (by rw [a.at_.N]; exact h1.2.1.1) hij (by rw [a.at_.sc]; exact hx) (by rw [a.at_.sc]; exact hy)
                (sndE g _ _ X S W a.at_ tk h2.1.1.1.1).pe (sndE g _ _ X S W a.at_ tk h2.1.1.1.2.1).pe h2.1.1.2.1 h2.1.1.2.2.1 sa sb hw
            · exact sns_unp (a.at_.tgt (t := .t ts) (by simpa only [mtT] using h1)) (sndE g e v X S W a.at_ tk h2).pe h3 (sw_sole hc) (ss_noswap a.at_.sc a.kind h5)
          | _ => simp [mtS] at h
    | _ => simp [mtS] at h
  | .frz i, st, X, S, W, a, tk, h => by cases st <;> simp [mtS] at h
  | .aug i op e, st, X, S, W, a, tk, h => by
    cases st with
    | AugAssign t op' v pos =>
      cases t with
      | Name x py =>
        simp only [mtS, Bool.and_eq_true, decide_eq_true_eq] at h
        obtain ⟨⟨⟨h1, rfl⟩, h3⟩, h4⟩ := h
        obtain ⟨s1, s2, s3, s4, s5, s6⟩ := a.slot h1
        exact sns_aug a.at_.ok.nd s1 s2 s3 (sndE g e v X S W a.at_ tk h3).pe
      | _ => simp [mtS] at h
    | _ => simp [mtS] at h
  | .put i ix e, st, X, S, W, a, tk, h => by
    cases st with
    | Assign tt v pos =>
      cases tt with
      | nil => simp [mtS] at h
      | cons t r =>
        cases r with
        | cons _ _ => cases t <;> simp [mtS] at h
        | nil =>
          cases t with
          | Subscript o eix ps =>
            simp only [mtS, Bool.and_eq_true] at h
            obtain ⟨⟨⟨⟨h1, h2⟩, h3⟩, h4⟩, h5⟩ := h
            obtain ⟨x, po, rfl⟩ := slotB_name h1
            obtain ⟨s1, s2, s3, s4, s5, s6⟩ := a.slot h1
            have hc : isCmp v = false := by simpa using h5
            exact sns_put (sndE g e v X S W a.at_ tk h3).pe h4 (sw_sole hc) ss_sub (pg_sub (pe_var s1 s4 s5 s6) (sndE g ix eix X S W a.at_ tk h2).pe set_list (assign_sub (mtE_slice h2)))
          | _ => simp [mtS] at h
    | _ => simp [mtS] at h
  | .augp i ix op e, st, X, S, W, a, tk, h => by
    cases st with
    | AugAssign t op' v pos =>
      cases t with
      | Subscript o eix ps =>
        simp only [mtS, Bool.and_eq_true, decide_eq_true_eq] at h
        obtain ⟨⟨⟨⟨⟨h1, h2⟩, rfl⟩, h3⟩, h4⟩, h5⟩ := h
        obtain ⟨x, po, rfl⟩ := slotB_name h1
        obtain ⟨s1, s2, s3, s4, s5, s6⟩ := a.slot h1
        exact sns_augp s1 s4 s5 s6 (sndE g ix eix X S W a.at_ tk h2).pe (sndE g e v X S W a.at_ tk h3).pe (aug_ok (mtE_slice h2))
      | _ => simp [mtS] at h
    | _ => simp [mtS] at h
  | .app i e, st, X, S, W, a, tk, h => by
    cases st with
    | Expr c pos =>
      cases c with
      | Call f as kw cp =>
        cases f with
        | Attribute o m ap =>
          match as, kw, h with
          | [v], [], h =>
            simp only [mtS, Bool.and_eq_true, decide_eq_true_eq] at h
            obtain ⟨⟨⟨⟨rfl, h2⟩, h3⟩, h4⟩, h5⟩ := h
            obtain ⟨x, po, rfl⟩ := slotB_name h2
            obtain ⟨s1, s2, s3, s4, s5, s6⟩ := a.slot h2
            exact sns_app s1 s4 s5 s6 (sndE g e v X S W a.at_ tk h3).pe h4 (mtE_star h3) h5
          | [], _, h => simp [mtS] at h
          | [_], _ :: _, h => simp [mtS] at h
          | _ :: _ :: _, _, h => simp [mtS] at h
        | _ => simp [mtS] at h
      | _ => simp [mtS] at h
    | _ => simp [mtS] at h
  | .ext i e, st, X, S, W, a, tk, h => by
    cases st with
    | Expr c pos =>
      cases c with
      | Call f as kw cp =>
        cases f with
        | Attribute o m ap =>
          match as, kw, h with
          | [v], [], h =>
            simp only [mtS, Bool.and_eq_true, decide_eq_true_eq] at h
            obtain ⟨⟨⟨⟨rfl, h2⟩, h3⟩, h4⟩, h5⟩ := h
            obtain ⟨x, po, rfl⟩ := slotB_name h2
            obtain ⟨s1, s2, s3, s4, s5, s6⟩ := a.slot h2
            exact sns_ext s1 s4 s5 s6 (sndE g e v X S W a.at_ tk h3).pe h4 (mtE_star h3) h5
          | [], _, h => simp [mtS] at h
          | [_], _ :: _, h => simp [mtS] at h
          | _ :: _ :: _, _, h => simp [mtS] at h
        | _ => simp [mtS] at h
      | _ => simp [mtS] at h
    | _ => simp [mtS] at h
  | .expr e, st, X, S, W, a, tk, h => by
    cases st with
    | Expr v pos =>
      simp only [mtS, Bool.and_eq_true] at h
      exact sns_expr (sndE g e v X S W a.at_ tk h.1).pe (sw_no (by simpa using h.2))
    | _ => simp [mtS] at h
  | .ret e, st, X, S, W, a, tk, h => by
    cases st with
    | Return v pos =>
      cases v with
      | some v => exact sns_ret (sndE g e v X S W a.at_ tk (by simpa only [mtS] using h)).pe
      | none => simp [mtS] at h
    | _ => simp [mtS] at h
  | .ife t x y, st, X, S, W, a, tk, h => by
    cases st with
    | If c sx sy pos =>
      simp only [mtS, Bool.and_eq_true] at h
      exact sns_ife ((sndE g t c X S W a.at_ tk h.1.1.1).pt h.1.1.2) (sndSs g eo x sx X S W a tk h.1.2) (sndSs g eo y sy X S W a tk h.2)
    | _ => simp [mtS] at h
  | .loop tg it body, st, X, S, W, a, tk, h => by
    cases st with
    | For t i sb oe pos =>
      cases oe with
      | cons _ _ => simp [mtS] at h
      | nil =>
        simp only [mtS, Bool.and_eq_true] at h
        exact sns_loop a.psn a.at_.ok.calm (sndI g it i t X S W a.at_ tk tg S h.1.1.1 h.1.1.2) (a.at_.tgt h.1.1.1) (sndSs g eo body sb X S W a tk h.2) h.1.2 (foldS (mtI_set h.1.1.2))
    | _ => simp [mtS] at h
  | .whl t body, st, X, S, W, a, tk, h => by
    cases st with
    | While c sb oe pos =>
      cases oe with
      | cons _ _ => simp [mtS] at h
      | nil =>
        simp only [mtS, Bool.and_eq_true] at h
        exact sns_whl a.psn ((sndE g t c X S W a.at_ tk h.1.1).pt h.1.2) (sndSs g eo body sb X S W a tk h.2)
    | _ => simp [mtS] at h
  | .rais n, st, X, S, W, a, tk, h => by
    cases st with
    | Raise ex cause pos =>
      simp only [mtS] at h
      split at h
      · rename_i x hq
        obtain ⟨p, m, j, p2, pp, rfl, rfl⟩ := raisOf_eq hq
        simp only [Bool.and_eq_true, decide_eq_true_eq] at h
        obtain ⟨⟨rfl, h2⟩, h3⟩ := h
        obtain ⟨hg, hdb⟩ := a.at_.gl h2
        obtain ⟨C, E⟩ := eo.ex x (any_of h3)
        have hK := a.at_.ok.K
        exact sns_rais a.at_.ok.calm tk (by rw [a.at_.ok.mg]; exact E.mg) E.ec (by rw [hK]; exact E.ex) (by rw [hK]; exact E.kp) (raises_own (by rw [hK]; exact E.sub) (by rw [hK]; exact E.ty)) hg hdb
      · cases h
    | _ => simp [mtS] at h
  | .try1 body n c, st, X, S, W, a, tk, h => by
    cases st with
    | Try sb hs oe fb pos =>
      simp only [mtS] at h
      split at h
      · rename_i y r hq
        simp only [Bool.and_eq_true, decide_eq_true_eq] at h
        obtain ⟨⟨⟨⟨⟨rfl, h2⟩, h3⟩, h4⟩, h5⟩, h6⟩ := h
        obtain ⟨np, p1, p2, rfl, rfl, rfl⟩ := tryOf_eq hq
        obtain ⟨hg, hdb⟩ := a.at_.gl h2
        obtain ⟨C, E⟩ := eo.ex y (any_of h3)
        obtain ⟨d, hd⟩ := Option.isSome_iff_exists.mp h6
        exact sns_try a.stk a.frm tk (by rw [a.at_.ok.mg]; exact E.mg) E.ec hg hdb (fun z hz => by rw [a.at_.ok.K]; exact eo.one z hz y (any_of h3))
          (fun W2 pn xe tk2 ps2 => sndSs g eo body sb (X.tr pn xe) S W2 (a.tr pn xe ps2) tk2 h4) hd h5
      · cases h
    | _ => simp [mtS] at h
  | .brk, st, X, S, W, a, tk, h => by
    cases st with
    | Break p => exact sns_brk
    | _ => simp [mtS] at h
  | .cnt, st, X, S, W, a, tk, h => by
    cases st with
    | Continue p => exact sns_cnt
    | _ => simp [mtS] at h
  | .pss, st, X, S, W, a, tk, h => by
    cases st with
    | Pass p => exact sns_pss
    | _ => simp [mtS] at h
  | .retn, st, X, S, W, a, tk, h => by
    cases st with
    | Return v p =>
      cases v with
      | none => exact sns_retn
      | some v => simp [mtS] at h
    | _ => simp [mtS] at h
  | .dnew i, st, X, S, W, a, tk, h => by
    cases st with
    | Assign ts v pos =>
      match ts, v, h with
      | [.Name x py], .Dict [] [] p2, h =>
        simp only [mtS] at h
        obtain ⟨s1, s2, s3, s4, s5, s6⟩ := a.slot h
        exact sns_dnew a.at_.ok.nd s1 s2 s3
    | _ => simp [mtS] at h
  | .dput i ke e, st, X, S, W, a, tk, h => by
    cases st with
    | Assign tt v pos =>
      cases tt with
      | nil => simp [mtS] at h
      | cons t r =>
        cases r with
        | cons _ _ => cases t <;> simp [mtS] at h
        | nil =>
          cases t with
          | Subscript o ek ps =>
            simp only [mtS, Bool.and_eq_true] at h
            obtain ⟨⟨⟨⟨⟨h1, h2⟩, h3⟩, h4⟩, h5⟩, h6⟩ := h
            obtain ⟨x, po, rfl⟩ := slotB_name h1
            obtain ⟨s1, s2, s3, s4, s5, s6⟩ := a.slot h1
            have hc : isCmp v = false := by simpa using h6
            exact sns_dput (sndE g e v X S W a.at_ tk h3).pe h4 h5 (sw_sole hc) ss_sub (pg_sub (pe_var s1 s4 s5 s6) (sndE g ke ek X S W a.at_ tk h2).pe (set_dictN a.at_.ok.hu) (assign_sub (mtE_slice h2)))
          | _ => simp [mtS] at h
    | _ => simp [mtS] at h
  | .ins i ix e, st, X, S, W, a, tk, h => by
    cases st with
    | Expr c pos =>
      cases c with
      | Call f as kw cp =>
        cases f with
        | Attribute o m ap =>
          match as, kw, h with
          | [ei, v], [], h =>
            simp only [mtS, Bool.and_eq_true, decide_eq_true_eq] at h
            obtain ⟨⟨⟨⟨⟨rfl, h2⟩, h3⟩, h4⟩, h5⟩, h6⟩ := h
            obtain ⟨x, po, rfl⟩ := slotB_name h2
            obtain ⟨s1, s2, s3, s4, s5, s6⟩ := a.slot h2
            exact sns_ins s1 s4 s5 s6 (sndE g ix ei X S W a.at_ tk h3).pe (sndE g e v X S W a.at_ tk h4).pe h5 (mtE_star h3) (mtE_star h4) h6
          | [], _, h => simp [mtS] at h
          | [_], _, h => simp [mtS] at h
          | [_, _], _ :: _, h => simp [mtS] at h
          | _ :: _ :: _ :: _, _, h => simp [mtS] at h
        | _ => simp [mtS] at h
      | _ => simp [mtS] at h
    | _ => simp [mtS] at h
  | .rem i e, st, X, S, W, a, tk, h => by
    cases st with
    | Expr c pos =>
      cases c with
      | Call f as kw cp =>
        cases f with
        | Attribute o m ap =>
          match as, kw, h with
          | [v], [], h =>
            simp only [mtS, Bool.and_eq_true, decide_eq_true_eq] at h
            obtain ⟨⟨⟨⟨rfl, h2⟩, h3⟩, h4⟩, h5⟩ := h
            obtain ⟨x, po, rfl⟩ := slotB_name h2
            obtain ⟨s1, s2, s3, s4, s5, s6⟩ := a.slot h2
            exact sns_rem a.at_.ok.hu s1 s4 s5 s6 (sndE g e v X S W a.at_ tk h3).pe h4 (mtE_star h3) h5
          | [], _, h => simp [mtS] at h
          | [_], _ :: _, h => simp [mtS] at h
          | _ :: _ :: _, _, h => simp [mtS] at h
        | _ => simp [mtS] at h
      | _ => simp [mtS] at h
    | _ => simp [mtS] at h
  | .dead, st, X, S, W, a, tk, h => sns_dead
theorem sndSs {G : Glb} (g : GOk G) (eo : EOk G) : ∀ (ss : Sts) (sts : List Stmt) (X : Cx) (S : Sx) (W : WX), AtS G S X → Takes X W → mtSs G.Γ S ss sts = true → PSs X sts (tSs X.K G.Γ G.ec W ss)
  | .nil, sts, X, S, W, a, tk, h => by
    cases sts with
    | nil => exact sns_nil
    | cons _ _ => simp [mtSs] at h
  | .cons s ss, sts, X, S, W, a, tk, h => by
    simp only [mtSs] at h
    by_cases hf : isFrz s = true
    · rw [if_pos hf] at h
      obtain ⟨i, rfl⟩ := isFrz_of hf
      exact sns_frz (sndSs g eo ss sts X S W a tk h)
    · rw [if_neg hf] at h
      cases sts with
      | nil => cases h
      | cons st r =>
        simp only [Bool.and_eq_true] at h
        exact sns_cons (sndS g eo s st X S W a tk h.1) (sndSs g eo ss r X S W a tk h.2)
end
end DL

set_option Elab.async false
set_option linter.all false
set_option maxRecDepth 100000
set_option maxHeartbeats 4000000
namespace DL
open PySem PySem.Spec PyProof.Rows L2

/-! ### a def of the grammar -/
structure DF where
  nm : Str
  N : List Str
  ps : List Str
  body : Sts
abbrev Phi := List Sl → (D → Prop) → (Str → Prop) → Prop
def kt0 (P : D → Prop) (PE : Str → Prop) : Kt where
  nx := fun _ => P .none
  rt := P
  bk := fun _ => False
  ct := fun _ => False
  er := fun x _ => PE x
def ent (n : Nat) (as : List Sl) : Rho := as.map some ++ List.replicate (n - as.length) none
/-- the def's own meaning -/
def spW (Γ : Gam) (d : DF) : Phi := fun as P PE => as.length = d.ps.length ∧ wpSs Γ d.body (ent d.N.length as) (kt0 P PE)
def scK (N P : List Str) (sc : Scope) : Bool := (match sc.kind with
  | .function => true
  | _ => false) && (!sc.isCoroutine && (!sc.isGenerator && (decide N.Nodup && (decide (N.take P.length = P) && ((P.all fun x => visB sc x) && sc.names.all fun y => match y.2 with
    | .free => false
    | _ => true)))))
theorem scK_ok {N P : List Str} {sc : Scope} (h : scK N P sc = true) : FnScope N P sc := by
  unfold scK at h
  simp only [Bool.and_eq_true] at h
  obtain ⟨h1, h2, h3, h4, h5, h6, h7⟩ := h
  have nf : ∀ y ∈ sc.names, y.2 ≠ .free := fun y hy e => by
    have q := List.all_eq_true.mp h7 y hy
    rw [e] at q; cases q
  refine ⟨?_, by simpa using h2, by simpa using h3, of_decide_eq_true h4, of_decide_eq_true h5, fun x hx => ?_, nf⟩
  · split at h1
    · assumption
    · cases h1
  · have q := List.all_eq_true.mp h6 x hx
    unfold visB at q
    split at q
    · rename_i e; exact .inl e
    · rename_i e; exact .inr e
    · rename_i e
      exact absurd rfl (nf (x, .free) (PySem.mem_of_lookup e))
    · cases q
def sxOf (d : DF) (st : Stmt) : Sx := ⟨d.N, defScope st, fun _ => true⟩
def chkD (Γ : Gam) (d : DF) (st : Stmt) : Bool := scK d.N d.ps (defScope st) && mtSs Γ (sxOf d st) d.body (defBody st)
def Gam.add (Γ : Gam) (nm : Str) (φ : Phi) : Gam := { Γ with Φ := fun f => if f = nm then φ else Γ.Φ f, fs := nm :: Γ.fs }
def Glb.add (G : Glb) (nm : Str) (φ : Phi) : Glb := { G with k := G.k + 1, Γ := G.Γ.add nm φ }
abbrev FunS (K : PySem.W.Frag) (x : Str) (st : Stmt) (f : Addr) (fd : FuncData) : Prop := FunD K x x (defArgs st) (defBody st) (defScope st) [] [] f fd
theorem paired_len {α β : Type} {R : α → β → Prop} {as : List α} {bs : List β} (h : Paired R as bs) : as.length = bs.length := by
  induction h with
  | nil => rfl
  | cons _ _ ih => simp [ih]
theorem paired_get {α β : Type} {R : α → β → Prop} {as : List α} {bs : List β} (h : Paired R as bs) : ∀ (i : Nat) (b : β), bs[i]? = some b → ∃ a, as[i]? = some a ∧ R a b := by
  induction h with
  | nil => intro i b q; simp at q
  | cons h1 _ ih =>
    intro i b q
    cases i with
    | zero => simp at q; exact ⟨_, rfl, q ▸ h1⟩
    | succ j => simp at q; simpa using ih j b q
theorem ent_get {n i : Nat} {as : List Sl} {s : Sl} (h : (ent n as)[i]? = some (some s)) : as[i]? = some s := by
  unfold ent at h
  rw [List.getElem?_append] at h
  split at h
  · rw [List.getElem?_map] at h
    cases q : as[i]? with
    | none => rw [q] at h; cases h
    | some t => rw [q] at h; cases h; rfl
  · rw [List.getElem?_replicate] at h
    split at h <;> cases h
theorem start_get {n : List Str} {i : Nat} {vs : List V} {v : V} (h : vs[i]? = some v) : (L2.start n vs)[i]? = some (some v) := by
  unfold L2.start
  rw [List.getElem?_append_left (by
    rw [List.length_map]
    exact (List.getElem?_eq_some_iff.mp h).1), List.getElem?_map, h]
  rfl
theorem entry {K : PySem.W.Frag} {O : Addr → Prop} {dA : Option Addr} {dC : Addr} {H : Hp} {N : List Str} {vs : List V} {as : List Sl} (dm : Dom O H) (hd : ∀ a, dA = some a → O a ∧ DrawOk K O H a dC) (hp : Paired (SlotR K ⟨O, dA, dC, H⟩ O H) vs as) :
    EnvR K ⟨O, dA, dC, H⟩ O H (L2.start N vs) (ent N.length as) where
  len := by
    unfold L2.start ent
    simp [paired_len hp]
  slot := fun i s h => by
    obtain ⟨v, h1, h2⟩ := paired_get hp i s (ent_get h)
    exact ⟨v, start_get h1, h2⟩
  sep := fun i j d e a o1 o2 q1 q2 q3 q4 => by
    obtain ⟨v, _, h⟩ := paired_get hp i _ (ent_get q1)
    cases d with
    | ow d => obtain ⟨b, _, h1, h2, _⟩ := h; exact absurd h1 h2
    | od d => obtain ⟨b, _, h1, h2, _⟩ := h; exact absurd h1 h2
    | _ => cases o1
  sub := fun _ h => h
  dom := dm
  unp := fun a h n => absurd h n
  keep := fun _ _ _ h => h
  drw := hd
theorem EnvR.stp0 {K : PySem.W.Frag} {F : Fm} {O : Addr → Prop} {H : Hp} {σ : L2.St} {ρ : Rho} (e : EnvR K F O H σ ρ) : Stp K F F.O0 F.H0 H := ⟨e.keep, fun a h => by
  obtain ⟨h1, cells, i, cur, seed, g1, g2, g3, g4⟩ := e.drw a h
  exact ⟨cells, i, cur, seed, g1, g2, fun q => g3 (e.sub _ q), g4⟩⟩
section
variable {G : Glb}
/-- a def of the grammar keeps its meaning -/
theorem def_ok (g : GOk G) (eo : EOk G) {d : DF} {st : Stmt} {f : Addr} {fd : FuncData} (F : FunS G.K d.nm st f fd) (c : chkD G.Γ d st = true) :
    FnOk G.P G.w G.K G.mg G.base (L2.CX G.P G.w) (G.k + 1) f fd d.ps (spF G.K G.ec (spW G.Γ d)) := by
  unfold chkD at c
  rw [Bool.and_eq_true] at c
  obtain ⟨c1, c2⟩ := c
  have S : FnScope d.N d.ps (defScope st) := scK_ok c1
  refine F.ok S (fun vs H Q E h => ?_) (fun cdv A outer s H vs Q E hr h => ?_)
  · obtain ⟨O, dA, dC, as, P, PE, _, _, hp, ⟨hl, _⟩, _⟩ := h
    rw [paired_len hp, hl]
  · obtain ⟨O, dA, dC, as, P, PE, dm, hd, hp, ⟨hl, w⟩, hq, he⟩ := h
    have tk : Takes (cxOf (L2.CX G.P G.w) G.P G.w G.K G.mg G.base d.N d.nm (defScope st) f cdv A outer s H E) (fun cls dd _ H' => E cls dd H') := takes_of rfl rfl rfl rfl
    refine ⟨_, sndSs g eo d.body (defBody st) _ (sxOf d st) _ ⟨⟨⟨rfl, rfl, rfl, rfl, rfl, rfl, hr, S.nd⟩, rfl, rfl, rfl⟩, rfl, rfl, S.kind, passes_of rfl⟩ tk c2, ?_⟩
    refine ⟨⟨O, dA, dC, H⟩, O, ent d.N.length as, kt0 P PE, entry dm hd hp, w, ?_⟩
    exact {
      nx := fun ρ' h O' σ' H' en => hq _ h _ _ en.stp0 .non
      rt := fun x h O' σ' H' ρ' v en hv => hq _ h _ _ en.stp0 hv
      bk := fun ρ' h => h.elim
      ct := fun ρ' h => h.elim
      er := fun x ρ' h O' σ' H' en => he x h H' en.stp0 }
theorem spF_imp {K : PySem.W.Frag} {ec : Str → Value} {φ ψ : Phi} (h : ∀ as P PE, φ as P PE → ψ as P PE) : ∀ vs H Q E, spF K ec φ vs H Q E → spF K ec ψ vs H Q E := fun vs H Q E q => by
  obtain ⟨O, dA, dC, as, P, PE, a1, a2, a3, a4, a5⟩ := q
  exact ⟨O, dA, dC, as, P, PE, a1, a2, a3, h _ _ _ a4, a5⟩
theorem inFs_mem {Γ : Gam} {f : Str} (h : f ∈ Γ.fs) : inFs Γ f = true := List.any_eq_true.mpr ⟨f, h, decide_eq_true rfl⟩
/-- the table grows by a def (of any kind) -/
theorem GOk.grow (g : GOk G) {nm : Str} {φ : Phi} {f : Addr} {fd : FuncData} {ps : List Str} (hmg : G.mg nm = some (.ref f)) (kp : PySem.W.keepIn G.K (.ref f) = true) (b : Binds G.K fd ps [])
    (ok : FnOk G.P G.w G.K G.mg G.base (L2.CX G.P G.w) (G.k + 1) f fd ps (spF G.K G.ec φ)) : GOk (G.add nm φ) where
  fn := fun x hx => by
    show FnIn (G.add nm φ) x (if x = nm then φ else G.Γ.Φ x)
    by_cases e : x = nm
    · rw [if_pos e, e]
      exact ⟨f, fd, ps, hmg, kp, b, ok⟩
    · rw [if_neg e]
      have hx2 : x ∈ G.Γ.fs := by
        rcases List.mem_cons.mp (show x ∈ nm :: G.Γ.fs from hx) with h | h
        · exact absurd h e
        · exact h
      obtain ⟨a, fd', ps', m, k, bb, o⟩ := (g.fn x hx2).ex
      exact ⟨a, fd', ps', m, k, bb, o.mono (Nat.le_succ _)⟩
  bi := g.bi
  gcd := g.gcd
  rng := g.rng
  enm := g.enm
  zip := g.zip
  isi := g.isi
  bool := g.bool
  set := g.set
  gl := g.gl
theorem EOk.grow (e : EOk G) {nm : Str} {φ : Phi} : EOk (G.add nm φ) := ⟨fun x h => by
  obtain ⟨C, c⟩ := e.ex x h
  exact ⟨C, c.mg, c.ec, c.ex, c.kp, c.sub, c.ty⟩, e.one⟩
/-- .. by a def of the grammar, under a promise -/
theorem GOk.add (g : GOk G) (eo : EOk G) {d : DF} {st : Stmt} {f : Addr} {fd : FuncData} (φ : Phi) (F : FunS G.K d.nm st f fd) (hmg : G.mg d.nm = some (.ref f)) (c : chkD G.Γ d st = true)
    (b : ∀ (kV doc pm : Value) (an : Option Addr) (cdv ct : Value) (us : List Value), us.length = d.ps.length → bindArgs (PySem.W.fnOf d.nm d.nm (defArgs st) (defBody st) (defScope st) .none kV doc pm an cdv ct) ⟨us, []⟩ = pure (d.ps.zip us))
    (h : ∀ as P PE, φ as P PE → spW G.Γ d as P PE) : GOk (G.add d.nm φ) := by
  exact g.grow hmg F.kp (F.bindsN b) ((def_ok g eo F c).imp (spF_imp h))
end
/-- a def of which nothing is promised (yet) -/
def φNo : Phi := fun _ _ _ => False
theorem GOk.none (g : GOk G) {nm : Str} {f : Addr} {fd : FuncData} {ps : List Str} (hmg : G.mg nm = some (.ref f)) (kp : PySem.W.keepIn G.K (.ref f) = true) (b : Binds G.K fd ps []) : GOk (G.add nm φNo) :=
  g.grow hmg kp b ⟨fun vs H Q E h => by obtain ⟨_, _, _, _, _, _, _, _, _, h, _⟩ := h; exact h.elim, fun A outer s H args us vs Q E _ _ _ _ h => by obtain ⟨_, _, _, _, _, _, _, _, _, h, _⟩ := h; exact h.elim⟩
/-- the promise of a def that calls itself, one level deeper -/
def RecΦ (Γ : Gam) (f : Str) (φ : Nat → Phi) : Nat → Prop
  | 0 => True
  | n + 1 => Γ.Φ f = φ n
/-- what a draw promises: any number in the range -/
def φTake : Phi := fun as P _ => ∃ m : Int, as = [.dr, .fz (.int m)] ∧ 0 < m ∧ m < 2 ^ 30 ∧ ∀ k : Int, 0 ≤ k → k < m → P (.int k)
end DL

set_option Elab.async false
set_option linter.all false
set_option maxRecDepth 100000
set_option maxHeartbeats 4000000
namespace DL
open PySem PySem.Spec PyProof.Rows L2
/-! the given program's rows, by their places -/
abbrev rProg : Program := PySem.Challenge.pw_guessbound_k39_opinions_that_cannot_diff
def topS (i : Nat) : Stmt := rProg.main.body.getD i (.Pass ⟨0, 0, 0, 0⟩)
abbrev sTake : Stmt := topS 25
abbrev sDraw : Stmt := topS 24
end DL

set_option Elab.async false
set_option linter.all false
set_option maxRecDepth 100000
set_option maxHeartbeats 4000000
namespace DL
open PySem PySem.Spec PyProof.Rows L2
/-! ### the draw's two defs, by hand -/
theorem scTake : FnScope ["draw", "many", "found"] ["draw", "many"] (defScope sTake) := ⟨rfl, rfl, rfl, by decide +kernel, rfl, by decide +kernel, by decide +kernel⟩
theorem scDraw : FnScope ["script", "seed", "cell"] ["script"] (defScope sDraw) := ⟨rfl, rfl, rfl, by decide +kernel, rfl, by decide +kernel, by decide +kernel⟩
def ifBody : Stmt → List Stmt
  | .If _ b _ _ => b
  | _ => []
section
variable {P : Program} {w : World} {K : PySem.W.Frag} {mg : Str → Option Value} {base : Heap} {CX : CXT}
theorem mk1 {z : Int} (h : 0 < z ∧ z < 2 ^ 30) : dDivOk z := by
  refine ⟨by omega, ?_⟩
  have : z.natAbs < 2 ^ 30 := by omega
  exact Nat.lt_trans ((Nat.log2_lt (k := 30) (by omega)).mpr this) (by decide)
theorem mulOk31 {x : Int} (h0 : 0 ≤ x) (h : x < 2147483647) : x.natAbs.log2 + (48271 : Int).natAbs.log2 < 1000000 := by
  have h1 : (48271 : Int).natAbs.log2 < 16 := by decide
  have h2 : x.natAbs.log2 < 31 ∨ x.natAbs = 0 := by
    by_cases e : x.natAbs = 0
    · exact .inr e
    · exact .inl ((Nat.log2_lt e).mpr (by omega))
  rcases h2 with h2 | h2
  · omega
  · rw [h2]
    have : Nat.log2 0 = 0 := by decide
    omega
theorem sq4 {H : Hp} {a : Addr} {xs : List V} (h : H a = some (.lst xs)) : SqL K H a xs := .inl (.inl h)
theorem ok_take {ec : Str → Value} {f : Addr} {fd : FuncData} {k : Nat} (F : FunS K "_law_take" sTake f fd) (ml : mg "len" = none) (mi : mg "int" = none) : FnOk P w K mg base CX (k + 1) f fd ["draw", "many"] (spF K ec φTake) := by
  refine F.ok scTake (fun vs H Q E h => ?_) (fun cdv A outer s H vs Q E hr h => ?_)
  · obtain ⟨O, dA, dC, as, P, PE, _, _, hp, ⟨m, rfl, _⟩, _⟩ := h
    exact (paired_len hp : vs.length = 2)
  · obtain ⟨O, dA, dC, as, Pd, PE, dm, hd, hp, ⟨m, rfl, m0, m1, hP⟩, hq, he⟩ := h
    cases hp with | cons hp1 hp2 => cases hp2 with | cons hp2 hp3 =>
    cases hp3
    obtain ⟨a, ha, rfl⟩ := hp1
    cases hp2
    have ha : dA = some a := ha
    subst ha
    obtain ⟨ao, cells, i, cur, seed, e1, e2, nO, nca, cp, cl, i0, c0, s0, s1⟩ := hd a rfl
    -- the state of the draw
    let J : Hp → Prop := fun H1 => (∀ b, b ≠ a → H1 b = H b) ∧ ∃ i cur seed : Int, H1 a = some (.lst [.ref dC, .int i, .int cur, .int seed]) ∧ -1 ≤ i ∧ 0 ≤ cur ∧ 0 ≤ seed ∧ seed < 2147483647
    have stJ : ∀ H1, J H1 → Stp K ⟨O, some a, dC, H⟩ O H H1 := fun H1 j => ⟨fun b o n h => by rw [j.1 b (fun e => n (by rw [e]))]; exact h, fun b hb => by
      cases hb
      obtain ⟨i', c', s', g1, g2⟩ := j.2
      exact ⟨cells, i', c', s', g1, by rw [j.1 _ nca]; exact e2, nO, nca, cp, cl, g2⟩⟩
    have putJ : ∀ H1 (o : HO), (∀ b, b ≠ a → H1 b = H b) → ∀ b, b ≠ a → upd H1 a o b = H b := fun H1 o h b n => by rw [upd_ne n]; exact h b n
    have tail : ∃ t, PSs (cxOf CX P w K mg base ["draw", "many", "found"] "_law_take" (defScope sTake) f cdv A outer s H E) ((defBody sTake).drop 1) t ∧
        ∀ H1 x, J H1 → t { nx := fun _ H' => Q .non H', rt := Q } [some (.ref a), some (.int m), x] H1 := by
      refine ⟨_, pss_cons (ps_set (i := 2) scTake.nd rfl (.inl rfl) (pe_op op_mod (pe_callTy call_int1 (by rfl) mi (by decide +kernel) (pa_cons (pe_ix ix_list (pv 0) pe_int (fun _ _ => rfl)) pa_nil)) (pv 1)))
        (pss_cons (ps_asg (pe_op op_fdivA (pe_ix ix_list (pv 0) pe_int (fun _ _ => rfl)) (pv 1)) (pg_sub (pv 0) pe_int set_list))
        (pss_one (ps_ret (pv 2)))), ?_⟩
      intro H1 x j
      obtain ⟨j1, i', c', s', g1, g2, g3, g4, g5⟩ := j
      refine ⟨.ref a, rfl, a, _, 2, .int c', rfl, rfl, sq4 g1, rfl, .inl ⟨c', rfl, _, rfl, c', m, rfl, rfl, m0, ?_⟩⟩
      refine ⟨.ref a, rfl, a, _, 2, .int c', rfl, rfl, sq4 g1, rfl, .int m, rfl, c', m, rfl, rfl, mk1 ⟨m0, m1⟩, ?_⟩
      refine ⟨.ref a, rfl, a, _, 2, 2, rfl, rfl, g1, rfl, .int (c' % m), rfl, ?_⟩
      refine hq _ (hP (c' % m) (Int.emod_nonneg _ (by omega)) (Int.emod_lt_of_pos _ m0)) _ _ (stJ _ ⟨putJ _ _ j1, i', c'.fdiv m, s', upd_same, g2, ?_, g4, g5⟩) (.int _)
      exact Int.fdiv_nonneg g3 (by omega)
    obtain ⟨tl, htl, fin⟩ := tail
    have hu := hu_of hr
    have mid : ∃ t, PSs (cxOf CX P w K mg base ["draw", "many", "found"] "_law_take" (defScope sTake) f cdv A outer s H E) ((ifBody ((defBody sTake).headD (.Pass ⟨0, 0, 0, 0⟩))).drop 2) t ∧
        ∀ H1 x, J H1 → t { nx := tl { nx := fun _ H' => Q .non H', rt := Q }, rt := Q } [some (.ref a), some (.int m), x] H1 := by
      refine ⟨_, pss_one (ps_if (pt_cmpR op_eq (pe_ix ix_list (pv 0) pe_int (fun _ _ => rfl)) pe_int (nomark _))
          (pss_cons (ps_asg (pe_op op_mod (pe_callTy call_int1 (by rfl) mi (by decide +kernel) (pa_cons (pe_op op_add (pe_op op_mulW (pe_ix ix_list (pv 0) pe_int (fun _ _ => rfl)) pe_int) pe_int) pa_nil)) pe_int) (pg_sub (pv 0) pe_int set_list))
          (pss_one (ps_asg (pe_ix ix_list (pv 0) pe_int (fun _ _ => rfl)) (pg_sub (pv 0) pe_int set_list)))) pss_nil), ?_⟩
      intro H1 x j
      have jj := j
      obtain ⟨j1, i', c', s', g1, g2, g3, g4, g5⟩ := j
      refine ⟨.ref a, rfl, a, _, 2, .int c', rfl, rfl, sq4 g1, rfl, rfl, _, rfl, ite2 (fun _ => ?_) (fun _ => fin _ _ jj)⟩
      refine ⟨.ref a, rfl, a, _, 3, .int s', rfl, rfl, sq4 g1, rfl, s', 48271, rfl, rfl, mulOk31 g4 g5, _, 11, rfl, rfl, .inl ⟨_, rfl, _, 2147483647, rfl, rfl, show (0 : Int) < 2147483647 by decide, ?_⟩⟩
      refine ⟨.ref a, rfl, a, _, 3, 3, rfl, rfl, g1, rfl, ?_⟩
      have n0 : 0 ≤ (s' * 48271 + 11) % 2147483647 := Int.emod_nonneg _ (by decide)
      have n1 : (s' * 48271 + 11) % 2147483647 < 2147483647 := Int.emod_lt_of_pos _ (by decide)
      refine ⟨.ref a, rfl, a, _, 3, .int ((s' * 48271 + 11) % 2147483647), rfl, rfl, sq4 upd_same, rfl, .ref a, rfl, a, _, 2, 2, rfl, rfl, upd_same, rfl, ?_⟩
      exact fin _ _ ⟨putJ _ _ (putJ _ _ j1), i', _, _, upd_same, g2, n0, n0, n1⟩
    obtain ⟨tm, htm, fim⟩ := mid
    refine ⟨_, pss_cons (ps_if (pt_cmpR op_eq (pe_ix ix_list (pv 0) pe_int (fun _ _ => rfl)) pe_int (nomark _))
        (pss_cons (ps_asg (pe_op op_add (pe_ix ix_list (pv 0) pe_int (fun _ _ => rfl)) pe_int) (pg_sub (pv 0) pe_int set_list))
        (pss_cons (ps_if (pt_cmpR op_lt (pe_ix ix_list (pv 0) pe_int (fun _ _ => rfl)) (pe_callB call_len_seq (by rfl) ml PySem.boot_len (pa_cons (pe_ix ix_list (pv 0) pe_int (fun _ _ => rfl)) pa_nil)) (nomark _))
            (pss_one (ps_asg (pe_ix ix_list (pe_ix ix_list (pv 0) pe_int (fun _ _ => rfl)) (pe_ix ix_list (pv 0) pe_int (fun _ _ => rfl)) (fun _ _ => rfl)) (pg_sub (pv 0) pe_int set_list))) pss_nil)
        htm))
        pss_nil) htl, ?_⟩
    refine ⟨.ref a, rfl, a, _, 2, .int cur, rfl, rfl, sq4 e1, rfl, rfl, _, rfl, ite2 (fun _ => ?_) (fun _ => fin _ _ ⟨fun _ _ => rfl, i, cur, seed, e1, i0, c0, s0, s1⟩)⟩
    -- draw[1] = draw[1] + 1
    refine ⟨.ref a, rfl, a, _, 1, .int i, rfl, rfl, sq4 e1, rfl, i, 1, rfl, rfl, ?_⟩
    refine ⟨.ref a, rfl, a, _, 1, 1, rfl, rfl, e1, rfl, ?_⟩
    have u1 : (upd H a (.lst [.ref dC, .int (i + 1), .int cur, .int seed])) a = some (.lst [.ref dC, .int (i + 1), .int cur, .int seed]) := upd_same
    have f1 := putJ H (.lst [.ref dC, .int (i + 1), .int cur, .int seed]) fun _ _ => rfl
    have ec1 : (upd H a (.lst [.ref dC, .int (i + 1), .int cur, .int seed])) dC = some (.lst (cells.map V.int)) := by rw [f1 _ nca]; exact e2
    refine ⟨.ref a, rfl, a, _, 1, .int (i + 1), rfl, rfl, sq4 u1, rfl, .ref a, rfl, a, _, 0, .ref dC, rfl, rfl, sq4 u1, rfl, ?_⟩
    refine ⟨dC, _, rfl, .inl (sq4 ec1), _, _, rfl, rfl, _, rfl, ite2 (fun hlt => ?_) (fun _ => fim _ _ ⟨f1, i + 1, cur, seed, u1, by omega, c0, s0, s1⟩)⟩
    have hl : i + 1 < (cells.length : Int) := by
      have := of_decide_eq_true hlt
      rw [List.length_map] at this
      exact this
    obtain ⟨j, hj⟩ : ∃ j : Nat, i + 1 = (j : Int) := ⟨(i + 1).toNat, by omega⟩
    have hjl : j < cells.length := by omega
    have gj : (cells.map V.int)[j]? = some (.int cells[j]) := by rw [List.getElem?_map, List.getElem?_eq_getElem hjl]; rfl
    refine ⟨.ref a, rfl, a, _, 0, .ref dC, rfl, rfl, sq4 u1, rfl, .ref a, rfl, a, _, 1, .int (i + 1), rfl, rfl, sq4 u1, rfl, dC, _, i + 1, .int cells[j], rfl, rfl, sq4 ec1, by rw [hj]; exact atI_nat gj, ?_⟩
    refine ⟨.ref a, rfl, a, _, 2, 2, rfl, rfl, u1, rfl, ?_⟩
    exact fim _ _ ⟨putJ _ _ f1, i + 1, cells[j], seed, upd_same, by omega, cp _ (List.getElem_mem hjl), s0, s1⟩
/-- the numbers, made a draw -/
def spDraw (K : PySem.W.Frag) : Sp := fun vs H Q _ => ∃ (a : Addr) (ns : List Int), vs = [.ref a] ∧ SqL K H a (ns.map V.int) ∧ ns.length ≤ 63 ∧
  ∀ (H' : Hp) (p c : Addr) (cells : List Int) (seed : Int), Same H H' → H p = none → H c = none → c ≠ p → H' p = some (.lst [.ref c, .int (-1), .int 0, .int seed]) → H' c = some (.lst (cells.map V.int)) → (∀ x ∈ cells, 0 ≤ x) → cells.length ≤ 63 → 0 ≤ seed → seed < 2147483647 → Q (.ref p) H'
theorem ok_draw {f : Addr} {fd : FuncData} {k : Nat} (F : FunS K "_law_draw" sDraw f fd) (ma : mg "abs" = none) (mi : mg "int" = none) : FnOk P w K mg base CX (k + 1) f fd ["script"] (spDraw K) := by
  refine F.ok scDraw (fun vs H Q E h => ?_) (fun cdv A outer s H vs Q E hr h => ?_)
  · obtain ⟨a, ns, rfl, _⟩ := h
    rfl
  · obtain ⟨a, ns, rfl, hS, hl, q⟩ := h
    refine ⟨_, pss_cons (ps_set (i := 1) scDraw.nd rfl (.inl rfl) pe_int)
      (pss_cons (ps_for (passes_of (K := fun e s'' => CX outer H s E e s'') rfl) rfl (pi_list (pv 0)) (pg_name (i := 2) scDraw.nd rfl (.inl rfl))
        (pss_one (ps_set (i := 1) scDraw.nd rfl (.inl rfl) (pe_op op_mod (pe_callTy call_int1 (by rfl) mi (by decide +kernel) (pa_cons
          (pe_op op_add (pe_op op_add (pe_op op_mulW (pv 1) pe_int) (pe_op op_mod (pe_callB call_abs (by rfl) ma (by decide +kernel) (pa_cons (pe_callTy call_int1 (by rfl) mi (by decide +kernel) (pa_cons (pv 2) pa_nil)) pa_nil)) pe_int)) pe_int) pa_nil)) pe_int))))
      (pss_one (ps_ret (pe_lst (pa_cons (pe_lc (own := [("cell", 2)]) (g := gName 2) (tt := tYes) rfl scDraw.nd (pi_list (pv 0)) (blkOk_by (N := ["script", "seed", "cell"]) (sc := defScope sDraw) (by decide +kernel)) (fun _ _ _ _ _ => pg_name (i := 2) scDraw.nd rfl (Or.inl rfl)) (fun _ _ _ _ _ => pts_nil)
          (fun _ _ _ _ _ => pe_callB call_abs (by rfl) ma (by decide +kernel) (pa_cons (pe_callTy call_int1 (by rfl) mi (by decide +kernel) (pa_cons (pv 2) pa_nil)) pa_nil)))
        (pa_cons (pe_un un_neg pe_int) (pa_cons pe_int (pa_cons (pv 1) pa_nil)))))))), ?_⟩
    refine ⟨.ref a, rfl, a, rfl, ⟨_, hS⟩, for_list (xs := ns.map V.int) (fun _ σ H1 => H1 = H ∧ ∃ sd y, σ = [some (.ref a), some (.int sd), y] ∧ 0 ≤ sd ∧ sd < 2147483647) ⟨rfl, 7, none, rfl, by decide, by decide⟩ (fun i σ H1 _ h => by rw [h.1]; exact hS) (fun i x σ H1 hx h => ?_) (fun σ H1 h => ?_)⟩
    · obtain ⟨rfl, sd, y, rfl, d0, d1⟩ := h
      obtain ⟨n, rfl⟩ : ∃ n, x = .int n := by
        rw [List.getElem?_map] at hx
        cases e : ns[i]? with
        | none => rw [e] at hx; cases hx
        | some n => rw [e] at hx; cases hx; exact ⟨n, rfl⟩
      refine ⟨.int sd, rfl, sd, 48271, rfl, rfl, mulOk31 d0 d1, .int n, rfl, .inl ⟨n, rfl, n, rfl, _, 65521, rfl, rfl, show (0 : Int) < 65521 by decide, _, _, rfl, rfl, _, 1, rfl, rfl, .inl ⟨_, rfl, _, 2147483647, rfl, rfl, show (0 : Int) < 2147483647 by decide, ?_⟩⟩⟩
      exact ⟨rfl, _, _, rfl, Int.emod_nonneg _ (by decide), Int.emod_lt_of_pos _ (by decide)⟩
    · obtain ⟨rfl, sd, y, rfl, d0, d1⟩ := h
      refine ⟨.ref a, rfl, a, rfl, ⟨_, hS⟩, fun p hp => lc_list (xs := ns.map V.int) (fun i H2 => Same H1 H2 ∧ ∃ cells : List Int, H2 p = some (.lst (cells.map V.int)) ∧ (∀ x ∈ cells, 0 ≤ x) ∧ cells.length ≤ i) ⟨same_upd hp, [], upd_same, nofun, Nat.le_refl _⟩ (fun i H2 _ h => h.1.seq hS) (fun i x H2 hx h => ?_) (fun H2 h => ?_)⟩
      · obtain ⟨n, rfl⟩ : ∃ n, x = .int n := by
          rw [List.getElem?_map] at hx
          cases e : ns[i]? with
          | none => rw [e] at hx; cases hx
          | some n => rw [e] at hx; cases hx; exact ⟨n, rfl⟩
        obtain ⟨sm, cells, g1, g2, g3⟩ := h
        have hi : i < ns.length := by
          rw [List.getElem?_map] at hx
          cases e : ns[i]? with
          | none => rw [e] at hx; cases hx
          | some m => exact (List.getElem?_eq_some_iff.mp e).1
        refine ⟨rfl, ?_⟩
        refine ⟨.int n, rfl, .inl ⟨n, rfl, n, rfl, _, g1, ?_, fun b o e => ?_, cells ++ [if n < 0 then -n else n], ?_, fun x hx => ?_, by rw [List.length_append]; simp; exact g3⟩⟩
        · rw [List.length_map]
          exact small1000 (by omega)
        · rw [upd_ne (fun z => by rw [z, hp] at e; cases e)]
          exact sm b o e
        · rw [upd_same, List.map_append]; rfl
        · rcases List.mem_append.mp hx with h | h
          · exact g2 x h
          · rw [List.mem_singleton] at h
            rw [h]; split <;> omega
      · obtain ⟨sm, cells, g1, g2, g3⟩ := h
        rw [List.length_map] at g3
        refine ⟨1, rfl, .int sd, rfl, show (4 : Nat) ≤ sizeLine by decide, fun r hr2 => ?_⟩
        have nrp : p ≠ r := fun z => by rw [z, hr2] at g1; cases g1
        exact q _ r p cells sd (sm.trans (same_upd hr2)) (Same.free sm hr2) hp nrp upd_same (by rw [upd_ne nrp]; exact g1) g2 (by omega) d0 d1
end
end DL

set_option Elab.async false
set_option linter.all false
set_option maxRecDepth 100000
set_option maxHeartbeats 4000000
namespace DL
open PySem PySem.Spec PyProof.Rows L2
/-! ### the law's own def: its first statement by hand, the rest over data -/
def spLaw (K : PySem.W.Frag) : Sp := fun vs H Q _ => ∃ (a : Addr) (ns : List Int), vs = [.ref a] ∧ SqL K H a (ns.map V.int) ∧ ns.length ≤ 63 ∧ ∀ H', Q (.bl true) H'
def firstOf : List Stmt → Option (Str × Str × Str)
  | .Assign [.Name x _] (.Call (.Name f _) [.Name y _] [] _) _ :: _ => some (x, f, y)
  | _ => none
theorem firstOf_eq {sts : List Stmt} {x f y : Str} (h : firstOf sts = some (x, f, y)) : ∃ p1 p2 p3 p4 p5 rest, sts = .Assign [.Name x p1] (.Call (.Name f p2) [.Name y p3] [] p4) p5 :: rest := by
  unfold firstOf at h
  split at h
  · cases h
    exact ⟨_, _, _, _, _, _, rfl⟩
  · cases h
/-- names of the law: script, draw, .. -/
def chkL (Γ : Gam) (d : DF) (st : Stmt) : Bool := scK d.N ["script"] (defScope st) && mtSs Γ (sxOf d st) d.body (defBody st).tail && decide (firstOf (defBody st) = some (("draw" : Str), ("_law_draw" : Str), ("script" : Str))) && decide (d.N[0]? = some ("script" : Str)) && decide (d.N[1]? = some ("draw" : Str)) && visB (defScope st) "script" && visB (defScope st) "draw" && glB (defScope st) "_law_draw"
def entL (n : Nat) : Rho := none :: some .dr :: List.replicate (n - 2) none
section
variable {G : Glb}
theorem law_ok (g : GOk G) (eo : EOk G) {d : DF} {st : Stmt} {f fD : Addr} {fd fdD : FuncData} (F : FunS G.K "law" st f fd) (FD : FunS G.K "_law_draw" sDraw fD fdD) (hmD : G.mg "_law_draw" = some (.ref fD)) (c : chkL G.Γ d st = true)
    (hbD : Binds G.K fdD ["script"] []) (okD : FnOk G.P G.w G.K G.mg G.base (L2.CX G.P G.w) G.k fD fdD ["script"] (spDraw G.K))
    (pure_ : wpSs G.Γ d.body (entL d.N.length) (kt0 (fun r => r = .bool true) fun _ => False)) :
    FnOk G.P G.w G.K G.mg G.base (L2.CX G.P G.w) (G.k + 1) f fd ["script"] (spLaw G.K) := by
  unfold chkL at c
  simp only [Bool.and_eq_true] at c
  obtain ⟨⟨⟨⟨⟨⟨⟨c1, c2⟩, c3⟩, c4⟩, c5⟩, c6⟩, c7⟩, c8⟩ := c
  have S : FnScope d.N ["script"] (defScope st) := scK_ok c1
  obtain ⟨p1, p2, p3, p4, p5, rest, hst⟩ := firstOf_eq (of_decide_eq_true c3)
  refine F.ok S (fun vs H Q E h => ?_) (fun cdv A outer s H vs Q E hr h => ?_)
  · obtain ⟨a, ns, rfl, _⟩ := h
    rfl
  · obtain ⟨a, ns, rfl, hS, hl, q⟩ := h
    have tk : Takes (cxOf (L2.CX G.P G.w) G.P G.w G.K G.mg G.base d.N "law" (defScope st) f cdv A outer s H E) (fun cls dd _ H' => E cls dd H') := takes_of rfl rfl rfl rfl
    have aS : AtS G (sxOf d st) (cxOf (L2.CX G.P G.w) G.P G.w G.K G.mg G.base d.N "law" (defScope st) f cdv A outer s H E) := ⟨⟨⟨rfl, rfl, rfl, rfl, rfl, rfl, hr, S.nd⟩, rfl, rfl, rfl⟩, rfl, rfl, S.kind, passes_of rfl⟩
    have rst := sndSs g eo d.body (defBody st).tail _ (sxOf d st) _ aS tk c2
    rw [hst] at rst ⊢
    have gl := aS.at_.gl (x := "_law_draw") c8
    have vS := aS.at_.vis (x := "script") c6
    have vD := aS.at_.vis (x := "draw") c7
    have lD : Loc (cxOf (L2.CX G.P G.w) G.P G.w G.K G.mg G.base d.N "law" (defScope st) f cdv A outer s H E).env.scope "draw" := by
      rcases vD with h | h | h
      · exact .inl h
      · exact .inr h
      · exact absurd rfl (S.nofree ("draw", .free) (PySem.mem_of_lookup h))
    refine ⟨_, pss_cons (ps_set (i := 1) S.nd (of_decide_eq_true c5) lD (pe_call okD hr gl.1 hmD FD.kp hbD .nil (passes_call tk (fun _ _ _ _ h => h)) (pa_cons (pe_var (i := 0) (of_decide_eq_true c4) vS (by decide) (by decide)) pa_nil) gl.2) rfl (.inl rfl)) rst, ?_⟩
    have n2 : 1 < d.N.length := (List.getElem?_eq_some_iff.mp (of_decide_eq_true c5)).1
    refine ⟨.ref a, start_get (vs := [.ref a]) rfl, a, ns, rfl, hS, hl, fun H' p c cells seed sm np nc ncp hp hc hx hlen s0 s1 => ?_⟩
    have sget : ((L2.start d.N [.ref a]).set 1 (some (.ref p)))[1]? = some (some (.ref p)) := List.getElem?_set_self (by
      unfold L2.start
      simp
      omega)
    have only : ∀ (i : Nat) (s : Sl), (entL d.N.length)[i]? = some (some s) → i = 1 ∧ s = .dr := fun i s h => by
      unfold entL at h
      rcases i with _ | _ | i
      · simp at h
      · simp at h
        exact ⟨rfl, h.symm⟩
      · simp [List.getElem?_replicate] at h
    refine ⟨⟨fun b => b = p, some p, c, H'⟩, fun b => b = p, entL d.N.length, kt0 (fun r => r = .bool true) fun _ => False, ?_, pure_, ?_⟩
    · exact {
        len := by
          unfold L2.start entL
          simp
          omega
        slot := fun i s h => by
          obtain ⟨rfl, rfl⟩ := only i s h
          exact ⟨_, sget, p, rfl, rfl⟩
        sep := fun i j d' e b o1 o2 q1 q2 q3 q4 => by
          have h1 := (only i _ q1).1
          have h2 := (only j _ q2).1
          rw [h1, h2]
        sub := fun _ h => h
        dom := fun b h => by
          cases h
          exact ⟨_, hp⟩
        unp := fun b h n => absurd h n
        keep := fun _ _ _ h => h
        drw := fun b hb => by
          cases hb
          exact ⟨rfl, cells, -1, 0, seed, hp, hc, ncp, ncp, hx, hlen, by omega, by omega, s0, s1⟩ }
    · exact {
        nx := fun ρ' h O' σ' H2 en => by cases h
        rt := fun x h O' σ' H2 ρ' v en hv => by
          cases h
          cases hv
          exact q _
        bk := fun ρ' h => h.elim
        ct := fun ρ' h => h.elim
        er := fun x ρ' h => h.elim }
end
end DL

set_option Elab.async false
set_option linter.all false
set_option maxRecDepth 100000
set_option maxHeartbeats 4000000
namespace DL
open PySem PySem.Spec PyProof.Rows L2
/-! ### what the top has written, read by one hook -/
mutual
def datB (K : PySem.W.Frag) : D → Value → Bool
  | .none, .none => true
  | .bool b, .bool c => b == c
  | .int i, .int j _ => decide (i = j)
  | .str x, .str y _ => decide (x = y)
  | .tuple ds, .ref a => (match K.lookup a with
    | some ⟨.type c, _, .seq its _, _⟩ => decide (c = "tuple") && (decide (its.size ≤ sizeLine) && datsB K ds its.toList)
    | _ => false)
  | _, _ => false
def datsB (K : PySem.W.Frag) : List D → List Value → Bool
  | [], [] => true
  | d :: ds, u :: us => datB K d u && datsB K ds us
  | _, _ => false
end
mutual
theorem datB_ok {K : PySem.W.Frag} {O : Addr → Prop} {H : Hp} : ∀ (d : D) (u : Value), datB K d u = true → ∃ v, RelV v u ∧ Dr K O H v d
  | .none, u, h => by
    cases u with
    | none => exact ⟨.non, rfl, .non⟩
    | _ => simp [datB] at h
  | .bool b, u, h => by
    cases u with
    | bool c =>
      simp only [datB, beq_iff_eq] at h
      subst h
      exact ⟨.bl b, rfl, .bl b⟩
    | _ => simp [datB] at h
  | .int i, u, h => by
    cases u with
    | int j t =>
      simp only [datB, decide_eq_true_eq] at h
      subst h
      exact ⟨.int i, ⟨t, rfl⟩, .int i⟩
    | _ => simp [datB] at h
  | .str x, u, h => by
    cases u with
    | str y t =>
      simp only [datB, decide_eq_true_eq] at h
      subst h
      exact ⟨.str x, ⟨t, rfl⟩, .str x⟩
    | _ => simp [datB] at h
  | .tuple ds, u, h => by
    cases u with
    | ref a =>
      simp only [datB] at h
      split at h
      · rename_i c od its n sl q
        simp only [Bool.and_eq_true, decide_eq_true_eq] at h
        obtain ⟨rfl, h2, h3⟩ := h
        obtain ⟨vs, r, z⟩ := datsB_ok (O := O) (H := H) ds _ h3
        exact ⟨.ref a, rfl, .tup (.inr (.inr ⟨_, its, n, q, rfl, rfl, h2, r⟩)) z⟩
      · cases h
    | _ => simp [datB] at h
  | .list ds, u, h => by cases u <;> simp [datB] at h
  | .dict ds, u, h => by cases u <;> simp [datB] at h
theorem datsB_ok {K : PySem.W.Frag} {O : Addr → Prop} {H : Hp} : ∀ (ds : List D) (us : List Value), datsB K ds us = true → ∃ vs, Vals vs us ∧ DrA K O H vs ds
  | [], [], _ => ⟨[], .nil, .nil⟩
  | [], _ :: _, h => by simp [datsB] at h
  | _ :: _, [], h => by simp [datsB] at h
  | d :: ds, u :: us, h => by
    simp only [datsB, Bool.and_eq_true] at h
    obtain ⟨v, r, z⟩ := datB_ok (O := O) (H := H) d u h.1
    obtain ⟨vs, r2, z2⟩ := datsB_ok (O := O) (H := H) ds us h.2
    exact ⟨v :: vs, .cons r r2, .cons z z2⟩
end
inductive Xa where
  | dat (x : Str) (d : D)
  | blt (x : Str) (b : String)
def Xa.ok (K : PySem.W.Frag) : Xa → Bool
  | .dat x d => (match PySem.W.nsIn K mainGlobals x with
    | some (some u) => datB K d u
    | _ => false)
  | .blt x b => decide (PySem.W.nsIn K mainGlobals x = some (some (.builtin b)))
section
variable {K : PySem.W.Frag} {h : Heap} {mg : Str → Option Value}
theorem Xa.dat_ok (X : K.In h) (G : h.Ns mainGlobals mg) {x : Str} {d : D} (c : (Xa.dat x d).ok K = true) : ∃ u v, mg x = some u ∧ RelV v u ∧ Dr K (fun _ => False) (fun _ => none) v d := by
  unfold Xa.ok at c
  cases e : PySem.W.nsIn K mainGlobals x with
  | none => simp only [e] at c; cases c
  | some o =>
    cases o with
    | none => simp only [e] at c; cases c
    | some u =>
      simp only [e] at c
      obtain ⟨v, r, z⟩ := datB_ok (O := fun _ => False) (H := fun _ => none) d u c
      exact ⟨u, v, PySem.W.mg_of X G e, r, z⟩
theorem Xa.blt_ok (X : K.In h) (G : h.Ns mainGlobals mg) {x : Str} {b : String} (c : (Xa.blt x b).ok K = true) : mg x = some (.builtin b) := PySem.W.mg_of X G (of_decide_eq_true c)
end
abbrev AlX : Type := He.AlD × Bool
def obsX (fa : List He.Fa) (fn : List He.DefD) (xs : List Xa) (K : PySem.W.Frag) : AlX := (He.obsD fa fn K, xs.all fun x => x.ok K)
def obsXG (n : Nat) (fa : List He.Fa) (fn : List He.DefD) (xs : List Xa) (g : Addr → Option Obj) : AlX := obsX fa fn xs (He.frG g (He.asD g n))
structure SaysX (fa : List He.Fa) (fn : List He.DefD) (xs : List Xa) (K : PySem.W.Frag) : Prop where
  d : He.SaysD fa fn K
  x : (xs.all fun x => x.ok K) = true
def hookX (n : Nat) (fa : List He.Fa) (fn : List He.DefD) (xs : List Xa) : PySem.W.Hook where
  α := AlX
  obs := fun s => obsXG n fa fn xs s.heap.get?
  val := fun _ => (He.valD fn, true)
  says := fun _ h => ∃ K : PySem.W.Frag, K.In h ∧ SaysX fa fn xs K
  of := fun _ _ e => ⟨_, He.frG_in, ⟨congrArg (fun z : AlX => z.1) e, congrArg (fun z : AlX => z.2) e⟩⟩
  keeps := fun _ _ _ ⟨K, hK, c⟩ k => ⟨K, PySem.W.Frag.In.keeps hK k, c⟩
theorem obsXG_eq {n : Nat} {fa : List He.Fa} {fn : List He.DefD} {xs : List Xa} {g : Addr → Option Obj} {s : Shared} (h : ∀ a, g a = s.heap.get? a) : obsXG n fa fn xs g = (hookX n fa fn xs).obs s := by
  have e : g = s.heap.get? := funext h
  rw [e] <;> rfl
theorem SaysX.fact {fa : List He.Fa} {fn : List He.DefD} {xs : List Xa} {K : PySem.W.Frag} (c : SaysX fa fn xs K) {f : He.Fa} (h : f ∈ fa) : f.ok K = true := by
  have c1 := (He.ba (show ((fa.all fun f => f.ok K) && fn.all fun d => d.ok K) = true from congrArg (fun z : He.AlD => z.1) c.d)).1
  exact List.all_eq_true.mp c1 f h
theorem SaysX.xa {fa : List He.Fa} {fn : List He.DefD} {xs : List Xa} {K : PySem.W.Frag} (c : SaysX fa fn xs K) {f : Xa} (h : f ∈ xs) : f.ok K = true := List.all_eq_true.mp c.x f h
end DL

set_option Elab.async false
set_option linter.all false
set_option maxRecDepth 100000
set_option maxHeartbeats 4000000
namespace DL
open PySem PySem.Spec PyProof.Rows L2
/-! ### the table's ground, from what the top has written -/
def freeNames : List Str := ["len", "tuple", "list", "sum", "any", "all", "abs", "min", "max", "int", "str", "sorted", "range", "enumerate", "zip", "isinstance", "bool", "set"]
def frees : List He.Fa := freeNames.map .free
def exFa (exs : List Str) : List He.Fa := exs.flatMap fun x => .glo x :: .exc x :: exs.map fun y => .exm x y (decide (x = y))
def datXs (gl : List (Str × D)) : List Xa := .blt "gcd" "math.gcd" :: gl.map fun p => .dat p.1 p.2
def glbk (P : Program) (w : World) (K : PySem.W.Frag) (mg : Str → Option Value) (base : Heap) (k : Nat) (Γ : Gam) : Glb := ⟨P, w, K, mg, base, k, Γ, fun x => .ref (He.ga K x)⟩
abbrev glb0 (P : Program) (w : World) (K : PySem.W.Frag) (mg : Str → Option Value) (base : Heap) (Γ : Gam) : Glb := glbk P w K mg base 0 Γ
section
variable {P : Program} {w : World} {K : PySem.W.Frag} {h : Heap} {mg : Str → Option Value} {base : Heap} {exs : List Str} {gs : List He.Fa} {fn : List He.DefD} {gl : List (Str × D)} {xs : List Xa} {Γ : Gam}
theorem fa_glo (c : SaysX (frees ++ (exFa exs ++ gs)) fn xs K) (i : Nat) {f : He.Fa} (h : gs[i]? = some f) : f.ok K = true :=
  c.fact (List.mem_append_right _ (List.mem_append_right _ (List.mem_of_getElem? h)))
theorem fr_ok (X : K.In h) (G : h.Ns mainGlobals mg) (c : SaysX (frees ++ (exFa exs ++ gs)) fn xs K) (i : Nat) {x : Str} (hx : freeNames[i]? = some x) : mg x = none :=
  He.free_ok X G (c.fact (f := .free x) (List.mem_append_left _ (List.mem_map.mpr ⟨x, List.mem_of_getElem? hx, rfl⟩)))
theorem lookup_in {α : Type} {x : Str} {a : α} : ∀ {l : List (Str × α)}, l.lookup x = some a → (x, a) ∈ l := fun h => PySem.mem_of_lookup h
theorem g0_ok (X : K.In h) (G : h.Ns mainGlobals mg) (c : SaysX (frees ++ (exFa exs ++ gs)) fn (datXs gl ++ xs) K) (hf : Γ.fs = []) (hg : Γ.gl = gl) : GOk (glb0 P w K mg base Γ) where
  fn := fun f hf' => by
    have : f ∈ Γ.fs := hf'
    rw [hf] at this
    cases this
  bi := fun b hb => by
    show mg b.nm = none
    cases b with
    | len => exact fr_ok X G c 0 rfl
    | tuple => exact fr_ok X G c 1 rfl
    | list => exact fr_ok X G c 2 rfl
    | sum => exact fr_ok X G c 3 rfl
    | any => exact fr_ok X G c 4 rfl
    | all => exact fr_ok X G c 5 rfl
    | abs => exact fr_ok X G c 6 rfl
    | min => exact fr_ok X G c 7 rfl
    | max => exact fr_ok X G c 8 rfl
    | int => exact fr_ok X G c 9 rfl
    | str => exact fr_ok X G c 10 rfl
    | gcd => exact absurd rfl hb
    | sorted => exact fr_ok X G c 11 rfl
  gcd := Xa.blt_ok X G (c.xa (List.mem_append_left _ List.mem_cons_self))
  rng := fr_ok X G c 12 rfl
  enm := fr_ok X G c 13 rfl
  zip := fr_ok X G c 14 rfl
  isi := fr_ok X G c 15 rfl
  bool := fr_ok X G c 16 rfl
  set := fr_ok X G c 17 rfl
  gl := fun x d hx => by
    have hx : Γ.gl.lookup x = some d := hx
    rw [hg] at hx
    exact Xa.dat_ok X G (c.xa (List.mem_append_left _ (List.mem_cons_of_mem _ (List.mem_map.mpr ⟨(x, d), lookup_in hx, rfl⟩))))
theorem e0_ok (X : K.In h) (G : h.Ns mainGlobals mg) (c : SaysX (frees ++ (exFa exs ++ gs)) fn xs K) (he : Γ.exs = exs) : EOk (glb0 P w K mg base Γ) := by
  have mem : ∀ {f : He.Fa}, f ∈ exFa exs → f.ok K = true := fun {f} hf => c.fact (List.mem_append_right _ (List.mem_append_left _ hf))
  refine ⟨fun x hx => ?_, fun x hx y hy => ?_⟩
  · have hx : x ∈ exs := by rw [← he]; exact hx
    have m1 : He.Fa.glo x ∈ exFa exs := List.mem_flatMap.mpr ⟨x, hx, List.mem_cons_self⟩
    have m2 : He.Fa.exc x ∈ exFa exs := List.mem_flatMap.mpr ⟨x, hx, List.mem_cons_of_mem _ List.mem_cons_self⟩
    obtain ⟨q1, q2, q3, q4⟩ := He.exc_ok (mem m2)
    exact ⟨He.ga K x, He.glo_ok X G (mem m1), rfl, q1, q2, q3, q4⟩
  · have hx : x ∈ exs := by rw [← he]; exact hx
    have hy : y ∈ exs := by rw [← he]; exact hy
    exact He.exm_ok (mem (List.mem_flatMap.mpr ⟨x, hx, List.mem_cons_of_mem _ (List.mem_cons_of_mem _ (List.mem_map.mpr ⟨y, hy, rfl⟩))⟩))
end
def dX (x : Str) (i : Nat) : He.DefD := ⟨(x, none), x, x, defArgs (topS i), defBody (topS i), defScope (topS i), [], []⟩
theorem def_at {fa : List He.Fa} {fn : List He.DefD} {xs : List Xa} {K : PySem.W.Frag} (c : SaysX fa fn xs K) (i : Nat) {x : Str} {j : Nat} (h : fn[i]? = some (dX x j)) : ∃ fd, FunS K x (topS j) (He.ga K x) fd := c.d.def_ i h
/-- the end, from the facts of the top -/
theorem walk_end {l : PySem.W.OpenLaw} {n : Nat} {q : Program} {loose : List Str} {XP : (Str → Option Value) → Heap → Prop} {fa : List He.Fa} {fn : List He.DefD} {xs : List Xa} {d : DefRec} (hn : l.most = some 63) (hdf : d.params.defaults = []) (hnm : d.name = ("law" : Str))
    (hr : Room n callerA)
    (F : ∀ (w : World) (K : PySem.W.Frag) (h : Heap) (mg : Str → Option Value) (f : Addr), K.In h → h.Ns mainGlobals mg → mg ("law" : Str) = some (.ref f) → SaysX fa fn xs K →
      ∃ fd : FuncData, (∀ (s : Shared) (v : Value), BindsTo s fd ⟨[v], []⟩ [("script", v)]) ∧ ∀ base : Heap, K.In base → base.Ns mainGlobals mg → FnOk l.prog w K mg base (L2.CX l.prog w) n f fd ["script"] (spLaw K)) :
    PySem.W.WalkO q loose XP (fun _ h => ∃ K : PySem.W.Frag, K.In h ∧ SaysX fa fn xs K) l.row.toRowW d [] (fun f vs => PySem.call f vs) := by
  refine LamX.walk_ofTsE (n := 63) (k := n) (x := "script") (CX := fun w => L2.CX l.prog w) hn (by decide) hdf hr (fun w mg fa h Y G hmg => ?_) (fun w H s e s' z => ?_)
  · obtain ⟨K, KX, c⟩ := Y
    rw [hnm] at hmg
    obtain ⟨fd, hb, hF⟩ := F w K h mg fa KX G hmg c
    exact ⟨K, KX, fd, [], spLaw K, nofun, nofun, nofun, hb, fun H a ns h1 _ _ h4 => ⟨a, ns, rfl, h4, h1, fun _ => rfl⟩, fun base hk hn _ => hF base hk hn⟩
  · obtain ⟨_, _, _, _, _, _, _, _, _, _, _, _, z⟩ := z
    exact z.elim
end DL

set_option Elab.async false
set_option linter.all false
set_option maxRecDepth 100000
set_option maxHeartbeats 4000000
namespace DL
open PySem PySem.Spec PyProof.Rows L2
/-! ### the meaning, computed where the data's kind is known -/
section
variable {α : Type} {Q : D → Prop} {a b : List D} {i j : Int} {p q : Bool} {d : D}
theorem w_some {x : α} {R : α → Prop} : optQ (some x) R = R x := rfl
theorem w_none {R : α → Prop} : optQ none R = False := rfl
theorem w_fz0 : fzs [] = some [] := rfl
theorem w_fz1 {s : D} {r : List Sl} : fzs (.fz s :: r) = (fzs r).map (s :: ·) := rfl
theorem w_t0 : truD .none = some false := rfl
theorem w_t1 : truD (.bool p) = some p := rfl
theorem w_t2 : truD (.int i) = some (i != 0) := rfl
theorem w_t3 : truD (.list a) = some (!a.isEmpty) := rfl
theorem w_t4 : truD (.tuple a) = some (!a.isEmpty) := rfl
theorem w_add : dAdd (.int i) (.int j) Q = Q (.int (i + j)) := rfl
theorem w_addL : dAdd (.list a) (.list b) Q = (a.length + b.length ≤ sizeLine ∧ Q (.list (a ++ b))) := rfl
theorem w_addT : dAdd (.tuple a) (.tuple b) Q = (a.length + b.length ≤ sizeLine ∧ Q (.tuple (a ++ b))) := rfl
theorem w_sub : dSub (.int i) (.int j) Q = Q (.int (i - j)) := rfl
theorem w_subB : dSub (.bool p) (.bool q) Q = Q (.int (PyProof.Rows.b2i p - PyProof.Rows.b2i q)) := rfl
theorem w_mul : dMul (.int i) (.int j) Q = (dMulOk i j ∧ Q (.int (i * j))) := rfl
theorem w_mulL : dMul (.list a) (.int i) Q = (-(2 ^ 63) ≤ i ∧ i < 2 ^ 63 ∧ a.length * i.toNat ≤ sizeLine ∧ Q (.list (repD i a))) := rfl
theorem w_mulT : dMul (.tuple a) (.int i) Q = (a ≠ [] ∧ 2 ≤ i ∧ i ≤ 1000 ∧ a.length ≤ 1000 ∧ Q (.tuple (repD i a))) := rfl
theorem w_mod : dMod (.int i) (.int j) Q = (j ≠ 0 ∧ Q (.int (i.fmod j))) := rfl
theorem w_div : dDiv (.int i) (.int j) Q = (dDivOk j ∧ Q (.int (i.fdiv j))) := rfl
theorem w_lt : dLt (.int i) (.int j) Q = Q (.bool (decide (i < j))) := rfl
theorem w_le : dLe (.int i) (.int j) Q = Q (.bool (decide (i ≤ j))) := rfl
theorem w_gt : dGt (.int i) (.int j) Q = Q (.bool (decide (i > j))) := rfl
theorem w_ge : dGe (.int i) (.int j) Q = Q (.bool (decide (i ≥ j))) := rfl
theorem w_is : dIs d .none Q = Q (.bool (isNone d)) := by cases d <;> rfl
theorem w_isnt : dIsnt d .none Q = Q (.bool (!isNone d)) := by cases d <;> rfl
theorem w_n0 : isNone .none = true := rfl
theorem w_n1 : isNone (.int i) = false := rfl
theorem w_n2 : isNone (.tuple a) = false := rfl
theorem w_n3 : isNone (.list a) = false := rfl
theorem w_n4 : isNone (.bool p) = false := rfl
theorem w_neg : dNeg (.int i) Q = Q (.int (-i)) := rfl
theorem w_atL : dSub1 (.list a) (.int i) Q = optQ (atI a i) Q := rfl
theorem w_atT : dSub1 (.tuple a) (.int i) Q = optQ (atI a i) Q := rfl
theorem w_lenL : dLen [.list a] Q = Q (.int a.length) := rfl
theorem w_lenT : dLen [.tuple a] Q = Q (.int a.length) := rfl
theorem w_tupL : dTuple [.list a] Q = Q (.tuple a) := rfl
theorem w_tupT : dTuple [.tuple a] Q = Q (.tuple a) := rfl
theorem w_lisL : dList [.list a] Q = Q (.list a) := rfl
theorem w_lisT : dList [.tuple a] Q = Q (.list a) := rfl
theorem w_abs : dAbs [.int i] Q = Q (.int i.natAbs) := rfl
theorem w_int : dInt [.int i] Q = Q (.int i) := rfl
theorem w_intB : dInt [.bool p] Q = Q (.int (if p then 1 else 0)) := rfl
theorem w_gcd : dGcd [.int i, .int j] Q = Q (.int (Nat.gcd i.natAbs j.natAbs : Nat)) := rfl
theorem w_min : dMin2 [.int i, .int j] Q = Q (.int (if j < i then j else i)) := rfl
theorem w_max : dMax2 [.int i, .int j] Q = Q (.int (if j > i then j else i)) := rfl
theorem w_seqL {R : List D → Prop} : seqOf (.list a) R = R a := rfl
theorem w_seqT {R : List D → Prop} : seqOf (.tuple a) R = R a := rfl
theorem w_augA : augF .Add (.int i) (.int j) Q = Q (.int (i + j)) := rfl
theorem w_augS : augF .Sub (.int i) (.int j) Q = Q (.int (i - j)) := rfl
theorem w_augM : augF .Mult (.int i) (.int j) Q = (dMulOk i j ∧ Q (.int (i * j))) := rfl
theorem w_intQ {R : Int → Prop} : intQ (.int i) R = R i := rfl
theorem w_lstQ {R : List D → Prop} : lstQ (.list a) R = R a := rfl
theorem w_rng1 {R : List D → Prop} : rngW [.int j] R = (rngOk j ∧ R (rangeD 0 j.toNat)) := rfl
theorem w_rng2 {R : List D → Prop} : rngW [.int i, .int j] R = (rngOk i ∧ rngOk j ∧ R (rangeD i (j - i).toNat)) := rfl
theorem w_zipL {R : List D → Prop} : zipW (.list a) (.list b) R = R (zipD a b) := rfl
theorem w_zipT {R : List D → Prop} : zipW (.tuple a) (.tuple b) R = R (zipD a b) := rfl
theorem w_zipM {R : List D → Prop} : zipW (.list a) (.tuple b) R = R (zipD a b) := rfl
theorem w_zipN {R : List D → Prop} : zipW (.tuple a) (.list b) R = R (zipD a b) := rfl
theorem w_enumT {R : List D → Prop} : enumW (.tuple a) R = R (enumD a) := rfl
theorem w_enum {R : List D → Prop} : enumW (.list a) R = R (enumD a) := rfl
end
end DL

set_option Elab.async false
set_option linter.all false
set_option maxRecDepth 100000
set_option maxHeartbeats 4000000
namespace DL
open PySem PySem.Spec PyProof.Rows L2
/-! ### ratios as data -/
def qD (q : Rat) : D := .tuple [.int q.num, .int q.den]
/-- |i| < 2^n -/
def Bd (n : Nat) (i : Int) : Prop := i.natAbs < 2 ^ n
theorem Bd.mono {m n : Nat} {i : Int} (h : Bd m i) (l : m ≤ n) : Bd n i := Nat.lt_of_lt_of_le h (Nat.pow_le_pow_right (by decide) l)
theorem Bd.mul {m n : Nat} {i j : Int} (h : Bd m i) (k : Bd n j) : Bd (m + n) (i * j) := by
  unfold Bd at *
  rw [Int.natAbs_mul, Nat.pow_add]
  exact Nat.mul_lt_mul'' h k
theorem Bd.add {m n : Nat} {i j : Int} (h : Bd m i) (k : Bd n j) (p : Nat) (hm : m < p) (hn : n < p) : Bd p (i + j) := by
  have h := h.mono (show m ≤ p - 1 by omega)
  have k := k.mono (show n ≤ p - 1 by omega)
  unfold Bd at *
  have e : 2 ^ p = 2 ^ (p - 1) + 2 ^ (p - 1) := by
    rw [show p = (p - 1) + 1 by omega, Nat.pow_succ]
    simp
    omega
  have := Int.natAbs_add_le i j
  omega
theorem Bd.neg {n : Nat} {i : Int} (h : Bd n i) : Bd n (-i) := by
  unfold Bd at *
  rw [Int.natAbs_neg]
  exact h
theorem Bd.sub {m n : Nat} {i j : Int} (h : Bd m i) (k : Bd n j) (p : Nat) (hm : m < p) (hn : n < p) : Bd p (i - j) := by
  rw [Int.sub_eq_add_neg]
  exact h.add k.neg p hm hn
theorem Bd.log {n : Nat} {i : Int} (h : Bd n i) : i.natAbs.log2 ≤ n := by
  by_cases e : i.natAbs = 0
  · rw [e]
    have : Nat.log2 0 = 0 := by decide
    omega
  · exact Nat.le_of_lt ((Nat.log2_lt e).mpr h)
theorem Bd.le {n : Nat} {i j : Int} (h : Bd n i) (l : j.natAbs ≤ i.natAbs) : Bd n j := Nat.lt_of_le_of_lt l h
theorem Bd.of {n : Nat} {i : Int} (h : i.natAbs < 2 ^ n) : Bd n i := h
theorem Bd.mulOk {m n : Nat} {i j : Int} (h : Bd m i) (k : Bd n j) (l : m + n < 1000000) : dMulOk i j := by
  have := h.log
  have := k.log
  unfold dMulOk
  omega
theorem Bd.divOk {n : Nat} {j : Int} (h : Bd n j) (l : n < 9000) (z : j ≠ 0) : dDivOk j := ⟨z, Nat.lt_of_le_of_lt h.log l⟩
structure Sz (n : Nat) (q : Rat) : Prop where
  num : Bd n q.num
  den : Bd n q.den
theorem Sz.mono {m n : Nat} {q : Rat} (h : Sz m q) (l : m ≤ n) : Sz n q := ⟨h.num.mono l, h.den.mono l⟩
theorem den_ne (q : Rat) : (q.den : Int) ≠ 0 := by
  have := q.den_nz
  omega
theorem den_pos (q : Rat) : (0 : Int) < q.den := by
  have := q.den_nz
  omega
/-- the parts of a ratio made of two numbers are no greater -/
theorem divInt_le {a b : Int} (hb : b ≠ 0) : (Rat.divInt a b).num.natAbs ≤ a.natAbs ∧ ((Rat.divInt a b).den : Int).natAbs ≤ b.natAbs := by
  refine ⟨?_, ?_⟩
  · rw [Rat.num_divInt]
    refine Nat.le_trans (Int.natAbs_ediv_le_natAbs _ _) ?_
    rw [Int.natAbs_mul, Int.natAbs_sign_of_ne_zero hb, Nat.one_mul]
    exact Nat.le_refl _
  · rw [Rat.den_divInt, if_neg hb]
    exact Nat.div_le_self _ _
theorem Sz.divInt {m n p : Nat} {a b : Int} (ha : Bd m a) (hb : Bd n b) (z : b ≠ 0) (hm : m ≤ p) (hn : n ≤ p) : Sz p (Rat.divInt a b) := by
  obtain ⟨h1, h2⟩ := divInt_le (a := a) z
  exact ⟨(ha.le h1).mono hm, (hb.le h2).mono hn⟩
theorem add_eq (p q : Rat) : p + q = Rat.divInt (p.num * q.den + q.num * p.den) (p.den * q.den) := by
  rw [Rat.add_def', ← Rat.divInt_ofNat]
  simp
theorem sub_eq (p q : Rat) : p - q = Rat.divInt (p.num * q.den - q.num * p.den) (p.den * q.den) := by
  rw [Rat.sub_def', ← Rat.divInt_ofNat]
  simp
theorem mul_eq (p q : Rat) : p * q = Rat.divInt (p.num * q.num) (p.den * q.den) := by
  rw [Rat.mul_def', ← Rat.divInt_ofNat]
  simp
theorem mul_ne {i j : Int} (h : i ≠ 0) (k : j ≠ 0) : i * j ≠ 0 := Int.mul_ne_zero h k
theorem Sz.add {m n p : Nat} {x y : Rat} (h : Sz m x) (k : Sz n y) (l : m + n < p) : Sz p (x + y) := by
  rw [add_eq]
  exact Sz.divInt ((h.num.mul k.den).add (k.num.mul h.den) p (by omega) (by omega)) (h.den.mul k.den) (mul_ne (den_ne _) (den_ne _)) (Nat.le_refl _) (by omega)
theorem Sz.sub {m n p : Nat} {x y : Rat} (h : Sz m x) (k : Sz n y) (l : m + n < p) : Sz p (x - y) := by
  rw [sub_eq]
  exact Sz.divInt ((h.num.mul k.den).sub (k.num.mul h.den) p (by omega) (by omega)) (h.den.mul k.den) (mul_ne (den_ne _) (den_ne _)) (Nat.le_refl _) (by omega)
theorem Sz.mul {m n p : Nat} {x y : Rat} (h : Sz m x) (k : Sz n y) (l : m + n ≤ p) : Sz p (x * y) := by
  rw [mul_eq]
  exact Sz.divInt (h.num.mul k.num) (h.den.mul k.den) (mul_ne (den_ne _) (den_ne _)) l l
theorem Sz.neg {n : Nat} {x : Rat} (h : Sz n x) : Sz n (-x) := ⟨h.num.neg, h.den⟩
theorem Sz.zero : Sz 1 0 := ⟨show (0 : Int).natAbs < 2 by decide, show (1 : Int).natAbs < 2 by decide⟩
theorem Sz.one : Sz 1 1 := ⟨show (1 : Int).natAbs < 2 by decide, show (1 : Int).natAbs < 2 by decide⟩
/-! ### lowest and the ratios' sums and products -/
def φ_lowest : Phi := fun as P _ => ∃ (a b : Int) (n : Nat), as = [.fz (.int a), .fz (.int b)] ∧ b ≠ 0 ∧ Bd n b ∧ n < 9000 ∧ P (qD (Rat.divInt a b))
theorem fdiv_gcd {a b : Int} {g : Nat} (hg : (g : Int) ∣ a) (h0 : 0 < g) : a.fdiv g = a / g := by
  rw [Int.fdiv_eq_ediv_of_nonneg _ (by omega)]
theorem lowest_eq {a b : Int} (h : b ≠ 0) : (if b < 0 then (PyData.tuple [.int (a.fdiv (-(a.natAbs.gcd b.natAbs : Nat))), .int (b.fdiv (-(a.natAbs.gcd b.natAbs : Nat)))]) else .tuple [.int (a.fdiv (a.natAbs.gcd b.natAbs : Nat)), .int (b.fdiv (a.natAbs.gcd b.natAbs : Nat))]) = qD (Rat.divInt a b) := by
  have g0 : 0 < a.natAbs.gcd b.natAbs := Nat.gcd_pos_of_pos_right _ (by omega)
  have ga : ((a.natAbs.gcd b.natAbs : Nat) : Int) ∣ a := Int.ofNat_dvd_left.mpr (Nat.gcd_dvd_left _ _)
  have gb : ((a.natAbs.gcd b.natAbs : Nat) : Int) ∣ b := Int.ofNat_dvd_left.mpr (Nat.gcd_dvd_right _ _)
  have e : (b.gcd a : Nat) = a.natAbs.gcd b.natAbs := by
    show b.natAbs.gcd a.natAbs = _
    exact Nat.gcd_comm _ _
  have hn : (Rat.divInt a b).num = b.sign * a / (a.natAbs.gcd b.natAbs : Nat) := by rw [Rat.num_divInt, e]
  have hd : (Rat.divInt a b).den = b.natAbs / a.natAbs.gcd b.natAbs := by rw [Rat.den_divInt, if_neg h, e]
  generalize a.natAbs.gcd b.natAbs = g at *
  unfold qD
  obtain ⟨x, hx⟩ := ga
  obtain ⟨y, hy⟩ := gb
  have gp : (0 : Int) < g := by omega
  by_cases hb : b < 0
  · rw [if_pos hb, hn, hd]
    have s : b.sign = -1 := Int.sign_eq_neg_one_of_neg hb
    have e1 : a.fdiv (-(g : Int)) = b.sign * a / g := by
      rw [s, hx, show (g : Int) * x = (-(g : Int)) * (-x) by rw [Int.neg_mul_neg], Int.mul_fdiv_cancel_left _ (by omega)]
      rw [show -1 * (-(g : Int) * -x) = g * -x by rw [Int.neg_mul_neg, Int.mul_neg, Int.neg_mul, Int.one_mul], Int.mul_ediv_cancel_left _ (by omega)]
    have e2 : b.fdiv (-(g : Int)) = ((b.natAbs / g : Nat) : Int) := by
      rw [Int.natCast_ediv, Int.ofNat_natAbs_of_nonpos (by omega), hy, show (g : Int) * y = (-(g : Int)) * (-y) by rw [Int.neg_mul_neg], Int.mul_fdiv_cancel_left _ (by omega)]
      rw [show -(-(g : Int) * -y) = g * -y by rw [Int.neg_mul_neg, Int.mul_neg], Int.mul_ediv_cancel_left _ (by omega)]
    rw [e1, e2]
  · rw [if_neg hb, hn, hd]
    have s : b.sign = 1 := Int.sign_eq_one_of_pos (by omega)
    have e1 : a.fdiv (g : Int) = b.sign * a / g := by rw [s, Int.one_mul, Int.fdiv_eq_ediv_of_nonneg _ (by omega)]
    have e2 : b.fdiv (g : Int) = ((b.natAbs / g : Nat) : Int) := by
      rw [Int.natCast_ediv, Int.natAbs_of_nonneg (by omega), Int.fdiv_eq_ediv_of_nonneg _ (by omega)]
    rw [e1, e2]

theorem atI0 {α : Type} (x : α) (xs : List α) : atI (x :: xs) 0 = some x := by
  rw [show (0 : Int) = ((0 : Nat) : Int) from rfl]
  exact atI_nat rfl
theorem atI1 {α : Type} (x y : α) (xs : List α) : atI (x :: y :: xs) 1 = some y := by
  rw [show (1 : Int) = ((1 : Nat) : Int) from rfl]
  exact atI_nat rfl
theorem atI2 {α : Type} (x y z : α) (xs : List α) : atI (x :: y :: z :: xs) 2 = some z := by
  rw [show (2 : Int) = ((2 : Nat) : Int) from rfl]
  exact atI_nat rfl
/-- two ratios of so many binary digits in all -/
def φ2 (f : Rat → Rat → Rat) : Phi := fun as P _ => ∃ (p q : Rat) (m n : Nat), as = [.fz (qD p), .fz (qD q)] ∧ Sz m p ∧ Sz n q ∧ m + n < 8000 ∧ P (qD (f p q))
abbrev φ_plus : Phi := φ2 (· + ·)
abbrev φ_minus : Phi := φ2 (· - ·)
abbrev φ_times : Phi := φ2 (· * ·)
/-! signs -/
def sgn (i : Int) : Int := if 0 < i then 1 else if i < 0 then -1 else 0
def φ_sign_of : Phi := fun as P _ => ∃ i : Int, as = [.fz (.int i)] ∧ P (.int (sgn i))
def cmpQ (p q : Rat) : Int := if q < p then 1 else if p < q then -1 else 0
theorem sgn_cmp (p q : Rat) : sgn (p.num * q.den - q.num * p.den) = cmpQ p q := by
  unfold sgn cmpQ
  have h1 : (0 < p.num * q.den - q.num * p.den) ↔ q < p := by rw [Rat.lt_iff]; omega
  have h2 : (p.num * q.den - q.num * p.den < 0) ↔ p < q := by rw [Rat.lt_iff]; omega
  simp only [h1, h2]
def φ_compare : Phi := fun as P _ => ∃ (p q : Rat) (m n : Nat), as = [.fz (qD p), .fz (qD q)] ∧ Sz m p ∧ Sz n q ∧ m + n < 8000 ∧ P (.int (cmpQ p q))
def φ_lesser : Phi := fun as P _ => ∃ (p q : Rat) (m n : Nat), as = [.fz (qD p), .fz (qD q)] ∧ Sz m p ∧ Sz n q ∧ m + n < 8000 ∧ P (qD (if p ≤ q then p else q))
theorem cmpQ_le {p q : Rat} : cmpQ p q ≤ 0 ↔ p ≤ q := by
  unfold cmpQ
  by_cases h1 : q < p
  · rw [if_pos h1]
    have : ¬ p ≤ q := by rw [Rat.not_le]; exact h1
    simp [this]
  · rw [if_neg h1]
    have : p ≤ q := Rat.not_lt.mp h1
    simp only [this, iff_true]
    split <;> omega
/-! ### the law's own ratios -/
def φ__law_lowest : Phi := fun as P _ => ∃ (a b : Int) (m n : Nat), as = [.fz (.int a), .fz (.int b)] ∧ 0 < b ∧ Bd m a ∧ Bd n b ∧ n < 9000 ∧ m < 900000 ∧ P (qD (Rat.divInt a b))
abbrev φ__law_plus : Phi := φ2 (· + ·)
abbrev φ__law_times : Phi := φ2 (· * ·)
/-- _law_less: a pair (i, j) with j above nothing need not be in lowest terms -/
def φ__law_less : Phi := fun as P _ => ∃ (a b c d : Int) (m n : Nat), as = [.fz (.tuple [.int a, .int b]), .fz (.tuple [.int c, .int d])] ∧ Bd m a ∧ Bd m b ∧ Bd n c ∧ Bd n d ∧ m + n < 8000 ∧ P (.bool (decide (a * d < c * b)))
/-! ### loops over made lists -/
theorem forW_inv {α : Type} {emb : α → D} {body : D → Rho → (Rho → Prop) → Prop} {Q : Rho → Prop} {l : List α} (I : List α → Rho → Prop) {ρ : Rho} (h0 : I [] ρ)
    (hs : ∀ done x rest ρ kk, l = done ++ x :: rest → I done ρ → (∀ ρ', I (done ++ [x]) ρ' → kk ρ') → body (emb x) ρ kk) (hd : ∀ ρ, I l ρ → Q ρ) : forW body (l.map emb) ρ Q := by
  have key : ∀ (rest done : List α) (ρ : Rho), l = done ++ rest → I done ρ → forW body (rest.map emb) ρ Q := by
    intro rest
    induction rest with
    | nil =>
      intro done ρ e h
      rw [List.append_nil] at e
      subst e
      exact hd ρ h
    | cons x rest ih =>
      intro done ρ e h
      rw [List.map_cons]
      unfold forW
      exact hs done x rest ρ _ e h fun ρ' h' => ih (done ++ [x]) ρ' (by rw [e]; simp) h'
  exact key l [] ρ rfl h0
theorem foldW_inv {α : Type} {emb : α → D} {step : D → List D → (List D → Prop) → Prop} {Q : List D → Prop} {l : List α} (I : List α → List D → Prop) {acc : List D} (h0 : I [] acc)
    (hs : ∀ done x rest acc kk, l = done ++ x :: rest → I done acc → (∀ acc', I (done ++ [x]) acc' → kk acc') → step (emb x) acc kk) (hd : ∀ acc, I l acc → Q acc) : foldW step (l.map emb) acc Q := by
  have key : ∀ (rest done : List α) (acc : List D), l = done ++ rest → I done acc → foldW step (rest.map emb) acc Q := by
    intro rest
    induction rest with
    | nil =>
      intro done acc e h
      rw [List.append_nil] at e
      subst e
      exact hd acc h
    | cons x rest ih =>
      intro done acc e h
      rw [List.map_cons]
      unfold foldW
      exact hs done x rest acc _ e h fun acc' h' => ih (done ++ [x]) acc' (by rw [e]; simp) h'
  exact key l [] acc rfl h0
/-- [g x for x in l if c x] -/
theorem foldW_filter {α : Type} {emb : α → D} {step : D → List D → (List D → Prop) → Prop} {Q : List D → Prop} {l : List α} (c : α → Bool) (g : α → D)
    (hs : ∀ x acc kk, x ∈ l → kk (if c x = true then acc ++ [g x] else acc) → step (emb x) acc kk) (hd : Q ((l.filter c).map g)) : foldW step (l.map emb) [] Q := by
  refine foldW_inv (I := fun done acc => acc = (done.filter c).map g) rfl (fun done x rest acc kk e h hk => ?_) (fun acc h => by rw [h]; exact hd)
  refine hs x acc kk (by rw [e]; simp) (hk _ ?_)
  rw [h, List.filter_append, List.map_append]
  by_cases hc : c x = true
  · rw [if_pos hc]; simp [hc]
  · rw [if_neg hc]; simp [hc]
theorem foldW_map {α : Type} {emb : α → D} {step : D → List D → (List D → Prop) → Prop} {Q : List D → Prop} {l : List α} (g : α → D)
    (hs : ∀ x acc kk, x ∈ l → kk (acc ++ [g x]) → step (emb x) acc kk) (hd : Q (l.map g)) : foldW step (l.map emb) [] Q := by
  refine foldW_filter (fun _ => true) g (fun x acc kk hx h => hs x acc kk hx (by simpa using h)) ?_
  rw [List.filter_eq_self.mpr (fun _ _ => rfl)]
  exact hd
/-- each item is any that R allows -/
theorem paired_snoc {α β : Type} {R : α → β → Prop} {as : List α} {bs : List β} (h : Paired R as bs) {x : α} {y : β} (hx : R x y) : Paired R (as ++ [x]) (bs ++ [y]) := by
  induction h with
  | nil => exact .cons hx .nil
  | cons h1 _ ih => exact .cons h1 ih
theorem foldW_any {α : Type} {emb : α → D} {step : D → List D → (List D → Prop) → Prop} {Q : List D → Prop} {l : List α} (R : α → D → Prop)
    (hs : ∀ x acc kk, x ∈ l → (∀ y, R x y → kk (acc ++ [y])) → step (emb x) acc kk) (hd : ∀ ys, Paired R l ys → Q ys) : foldW step (l.map emb) [] Q := by
  refine foldW_inv (I := fun done acc => Paired R done acc) .nil (fun done x rest acc kk e h hk => ?_) hd
  exact hs x acc kk (by rw [e]; simp) fun y hy => hk _ (paired_snoc h hy)
/-! ### sums -/
def qsum (l : List Rat) : Rat := l.foldr (· + ·) 0
theorem qsum_append (a b : List Rat) : qsum (a ++ b) = qsum a + qsum b := by
  induction a with
  | nil => show qsum b = 0 + qsum b; grind
  | cons x a ih =>
    show x + qsum (a ++ b) = x + qsum a + qsum b
    rw [ih]; grind
theorem qsum_nil : qsum [] = 0 := rfl
theorem qsum_cons (x : Rat) (l : List Rat) : qsum (x :: l) = x + qsum l := rfl
theorem qsum_snoc (a : List Rat) (x : Rat) : qsum (a ++ [x]) = qsum a + x := by
  rw [qsum_append, qsum_cons, qsum_nil]; grind
theorem Sz.qsum {n : Nat} {l : List Rat} (h : ∀ x ∈ l, Sz n x) : Sz (l.length * (n + 1) + 1) (qsum l) := by
  induction l with
  | nil =>
    show Sz ((0 : Nat) * (n + 1) + 1) 0
    exact Sz.zero.mono (by omega)
  | cons x l ih =>
    have h1 := h x List.mem_cons_self
    have h2 := ih fun y hy => h y (List.mem_cons_of_mem _ hy)
    rw [qsum_cons]
    refine h1.add h2 ?_
    rw [List.length_cons, Nat.add_mul]
    omega
def seqD (b : Bool) (ds : List D) : D := if b = true then .list ds else .tuple ds
theorem seqOf_seqD {b : Bool} {ds : List D} {P : List D → Prop} (h : P ds) : seqOf (seqD b ds) P := by
  cases b <;> exact h
/-- the sum of a list or a tuple of ratios: the items and all sums on the way are of so many digits -/
structure Sums (m : Nat) (l : List Rat) : Prop where
  it : ∀ x ∈ l, Sz m x
  su : ∀ d e, l = d ++ e → Sz m (qsum d)
theorem Sums.grow {l : List Rat} {n : Nat} (h : ∀ x ∈ l, Sz n x) : Sums (l.length * (n + 1) + n + 1) l := by
  refine ⟨fun x hx => (h x hx).mono (by omega), fun d e he => ?_⟩
  have hd := Sz.qsum (l := d) (n := n) fun x hx => h x (by rw [he]; simp [hx])
  refine hd.mono ?_
  have : d.length ≤ l.length := by rw [he]; simp
  have := Nat.mul_le_mul_right (n + 1) this
  omega
def φ_total : Phi := fun as P _ => ∃ (b : Bool) (l : List Rat) (m : Nat), as = [.fz (seqD b (l.map qD))] ∧ Sums m l ∧ m < 3990 ∧ P (qD (qsum l))
abbrev φ_total_of : Phi := φ_total
abbrev φ__law_total : Phi := φ_total
theorem qD_zero : qD 0 = .tuple [.int 0, .int 1] := rfl
theorem qD_one : qD 1 = .tuple [.int 1, .int 1] := rfl
/-! ### typed data: == is equality -/
class Td (α : Type) where
  d : α → D
  inj : ∀ x y, PyData.eqv (d x) (d y) = true ↔ x = y
  lay : ∀ x, PyData.canLay0 (d x) = true
  dp : Nat
  le : ∀ x, (d x).depth ≤ dp
/-- a tuple of items of one type -/
structure Tu (α : Type) where
  l : List α
  deriving DecidableEq
instance : Td Int where
  d := .int
  inj x y := by simp [PyData.eqv]
  lay x := rfl
  dp := 0
  le x := by simp [PyData.depth]
instance : Td Bool where
  d := .bool
  inj x y := by simp [PyData.eqv]
  lay x := rfl
  dp := 0
  le x := by simp [PyData.depth]
section
variable {α β : Type} [Td α] [Td β]
theorem td_all (xs ys : List α) : PyData.eqvAll (xs.map Td.d) (ys.map Td.d) = true ↔ xs = ys := by
  induction xs generalizing ys with
  | nil => cases ys <;> simp [PyData.eqvAll]
  | cons x xs ih =>
    cases ys with
    | nil => simp [PyData.eqvAll]
    | cons y ys => simp only [List.map_cons, PyData.eqvAll, Bool.and_eq_true, Td.inj, ih, List.cons.injEq]
theorem td_lay (xs : List α) : PyData.canLayAll0 (xs.map Td.d) = true := by
  induction xs with
  | nil => rfl
  | cons x xs ih => simp only [List.map_cons, PyData.canLayAll0, Td.lay, ih, Bool.and_self]
theorem td_dp (xs : List α) : PyData.depthAll (xs.map Td.d) ≤ Td.dp α := by
  induction xs with
  | nil => exact Nat.zero_le _
  | cons x xs ih =>
    simp only [List.map_cons, PyData.depthAll]
    exact Nat.max_le.mpr ⟨Td.le x, ih⟩
instance : Td (List α) where
  d xs := .list (xs.map Td.d)
  inj xs ys := by simp only [PyData.eqv, td_all]
  lay xs := by simp only [PyData.canLay0, td_lay]
  dp := Td.dp α + 1
  le xs := by
    have := td_dp xs
    simp only [PyData.depth]
    omega
instance : Td (Tu α) where
  d xs := .tuple (xs.l.map Td.d)
  inj xs ys := by
    cases xs; cases ys
    simp only [PyData.eqv, td_all, Tu.mk.injEq]
  lay xs := by simp only [PyData.canLay0, td_lay]
  dp := Td.dp α + 1
  le xs := by
    have := td_dp xs.l
    simp only [PyData.depth]
    omega
instance : Td (α × β) where
  d p := .tuple [Td.d p.1, Td.d p.2]
  inj p q := by
    simp only [PyData.eqv, PyData.eqvAll, Bool.and_eq_true, Td.inj, and_true]
    exact ⟨fun h => Prod.ext h.1 h.2, fun h => by rw [h]; exact ⟨rfl, rfl⟩⟩
  lay p := by simp only [PyData.canLay0, PyData.canLayAll0, Td.lay, Bool.and_self]
  dp := max (Td.dp α) (Td.dp β) + 1
  le p := by
    have h1 := Td.le p.1
    have h2 := Td.le p.2
    simp only [PyData.depth, PyData.depthAll]
    omega
end
instance : Td Rat where
  d := qD
  inj p q := by
    show PyData.eqv (Td.d (p.num, (p.den : Int))) (Td.d (q.num, (q.den : Int))) = true ↔ _
    rw [Td.inj]
    exact ⟨fun e => Rat.ext (congrArg Prod.fst e) (by have h2 : (p.den : Int) = q.den := congrArg Prod.snd e; omega), fun e => by rw [e]⟩
  lay p := rfl
  dp := 1
  le p := Nat.le_refl _
section
variable {α : Type} [Td α]
theorem td_dec [DecidableEq α] (x y : α) : PyData.eqv (Td.d x) (Td.d y) = decide (x = y) := by
  rw [Bool.eq_iff_iff, Td.inj, decide_eq_true_eq]
theorem td_shp (x : α) (h : Td.dp α ≤ 64) : shp (Td.d x) := by
  unfold shp SeqAt.shaped
  rw [Td.lay, decide_eq_true (Nat.le_trans (Td.le x) h)]
  rfl
theorem dEqT [DecidableEq α] {x y : α} {Q : D → Prop} (h : Q (.bool (decide (x = y)))) (hd : Td.dp α ≤ 64 := by decide) : dEq (Td.d x) (Td.d y) Q :=
  ⟨td_shp x hd, td_shp y hd, by rw [td_dec]; exact h⟩
theorem dNeT [DecidableEq α] {x y : α} {Q : D → Prop} (h : Q (.bool (!decide (x = y)))) (hd : Td.dp α ≤ 64 := by decide) : dNe (Td.d x) (Td.d y) Q :=
  ⟨td_shp x hd, td_shp y hd, by rw [td_dec]; exact h⟩
end
theorem dEqI {i j : Int} {Q : D → Prop} (h : Q (.bool (decide (i = j)))) : dEq (.int i) (.int j) Q := dEqT (α := Int) h
theorem dNeI {i j : Int} {Q : D → Prop} (h : Q (.bool (!decide (i = j)))) : dNe (.int i) (.int j) Q := dNeT (α := Int) h
/-! ### whole numbers in a range, rows of them -/
def oD : Option Int → D
  | none => .none
  | some i => .int i
def isInt : D → Option Int → Option Int → Bool
  | .int i, lo, hi => (lo.all fun l => decide (l ≤ i)) && hi.all fun l => decide (i ≤ l)
  | _, _, _ => false
def φ_is_integer : Phi := fun as P _ => ∃ (d : D) (lo hi : Option Int), as = [.fz d, .fz (oD lo), .fz (oD hi)] ∧ P (.bool (isInt d lo hi))
def isRow : D → Option Int → Option Int → Bool
  | .tuple ds, lo, hi => ds.all fun d => isInt d lo hi
  | _, _, _ => false
/-- all([..]), any([..]) of truth values -/
theorem dAll_map {α : Type} {l : List α} {f : α → Bool} {Q : D → Prop} (h : Q (.bool (l.all f))) : dAll [.list (l.map fun x => PyData.bool (f x))] Q := by
  show optQ (boolsOf _) _
  rw [show (l.map fun x => PyData.bool (f x)) = (l.map f).map PyData.bool by rw [List.map_map]; rfl, boolsOf_map]
  show Q (.bool ((l.map f).all id))
  rw [List.all_map]
  exact h
theorem dAny_map {α : Type} {l : List α} {f : α → Bool} {Q : D → Prop} (h : Q (.bool (l.any f))) : dAny [.list (l.map fun x => PyData.bool (f x))] Q := by
  show optQ (boolsOf _) _
  rw [show (l.map fun x => PyData.bool (f x)) = (l.map f).map PyData.bool by rw [List.map_map]; rfl, boolsOf_map]
  show Q (.bool ((l.map f).any id))
  rw [List.any_map]
  exact h
def φ_is_row : Phi := fun as P _ => ∃ (d : D) (lo hi : Option Int), as = [.fz d, .fz (oD lo), .fz (oD hi)] ∧ (∀ ds, d = .tuple ds → ds.length ≤ sizeLine) ∧ P (.bool (isRow d lo hi))
/-! ### more loops -/
theorem forW_allB {α : Type} {emb : α → D} {body : D → Rho → (Rho → Prop) → Prop} {Q : Rho → Prop} {l : List α} {J : Rho → Prop} {R : Prop} {c : α → Bool} {ρ : Rho} (h0 : J ρ)
    (hs : ∀ x ρ kk, x ∈ l → J ρ → (c x = true → ∀ ρ', J ρ' → kk ρ') → (c x = false → R) → body (emb x) ρ kk) (h1 : l.all c = true → ∀ ρ, J ρ → Q ρ) (h2 : l.all c = false → R) : forW body (l.map emb) ρ Q := by
  refine forW_inv (I := fun done ρ => J ρ ∧ done.all c = true) ⟨h0, rfl⟩ (fun done x rest ρ kk e h hk => ?_) (fun ρ h => h1 h.2 ρ h.1)
  refine hs x ρ kk (by rw [e]; simp) h.1 (fun hc ρ' hj => hk ρ' ⟨hj, by rw [List.all_append, h.2]; simp [hc]⟩) (fun hc => h2 ?_)
  rw [e, List.all_append, List.all_cons, hc]
  simp
theorem foldW_mapA {α : Type} {emb : α → D} {step : D → List D → (List D → Prop) → Prop} {Q : List D → Prop} {l : List α} {acc : List D} (g : α → D)
    (hs : ∀ x acc kk, x ∈ l → acc.length < acc.length + 1 → kk (acc ++ [g x]) → step (emb x) acc kk) (hd : Q (acc ++ l.map g)) : foldW step (l.map emb) acc Q := by
  refine foldW_inv (I := fun done a => a = acc ++ done.map g) (by simp) (fun done x rest a kk e h hk => ?_) (fun a h => by rw [h]; exact hd)
  refine hs x a kk (by rw [e]; simp) (by omega) (hk _ ?_)
  rw [h, List.map_append, ← List.append_assoc]
  rfl
/-- a bound holds of what is gathered -/
theorem foldW_mapB {α : Type} {emb : α → D} {step : D → List D → (List D → Prop) → Prop} {Q : List D → Prop} {l : List α} {acc : List D} (g : α → D) (N : Nat) (hN : acc.length + l.length ≤ N)
    (hs : ∀ x acc kk, x ∈ l → acc.length < N → kk (acc ++ [g x]) → step (emb x) acc kk) (hd : Q (acc ++ l.map g)) : foldW step (l.map emb) acc Q := by
  refine foldW_inv (I := fun done a => a = acc ++ done.map g) (by simp) (fun done x rest a kk e h hk => ?_) (fun a h => by rw [h]; exact hd)
  refine hs x a kk (by rw [e]; simp) ?_ (hk _ ?_)
  · rw [h, List.length_append, List.length_map]
    have : l.length = done.length + (rest.length + 1) := by rw [e]; simp
    omega
  · rw [h, List.map_append, ← List.append_assoc]
    rfl
theorem foldW_flat {α : Type} {emb : α → D} {step : D → List D → (List D → Prop) → Prop} {Q : List D → Prop} {l : List α} (g : α → List D) (N : Nat) (hN : ∀ x ∈ l, (g x).length ≤ N)
    (hs : ∀ x acc kk, x ∈ l → acc.length ≤ (l.length - 1) * N → kk (acc ++ g x) → step (emb x) acc kk) (hd : Q (l.flatMap g)) : foldW step (l.map emb) [] Q := by
  refine foldW_inv (I := fun done a => a = done.flatMap g) rfl (fun done x rest a kk e h hk => ?_) (fun a h => by rw [h]; exact hd)
  refine hs x a kk (by rw [e]; simp) ?_ (hk _ ?_)
  · rw [h]
    have h1 : ∀ d : List α, (∀ x ∈ d, (g x).length ≤ N) → (d.flatMap g).length ≤ d.length * N := by
      intro d
      induction d with
      | nil => intro _; simp
      | cons y d ih =>
        intro hy
        have := ih fun z hz => hy z (List.mem_cons_of_mem _ hz)
        have := hy y List.mem_cons_self
        rw [List.flatMap_cons, List.length_append, List.length_cons, Nat.add_mul]
        omega
    have h2 := h1 done fun z hz => hN z (by rw [e]; simp [hz])
    have h3 : done.length ≤ l.length - 1 := by rw [e]; simp
    exact Nat.le_trans h2 (Nat.mul_le_mul_right _ h3)
  · rw [h, List.flatMap_append]
    simp
theorem rangeD_map (lo : Int) (n : Nat) : rangeD lo n = (List.range n).map fun (i : Nat) => PyData.int (lo + i) := rfl
theorem rangeD0 (n : Nat) : rangeD 0 n = (List.range n).map fun (i : Nat) => PyData.int i := by
  unfold rangeD
  congr 1
  funext i
  rw [Int.zero_add]
theorem rngOk_small {i : Int} (h : -1000000 ≤ i) (h2 : i ≤ 1000000) : rngOk i := ⟨by omega, by omega⟩
/-! ### meeting -/
def gx (f : List Int) (a : Nat) : Int := f.getD a 0
theorem atI_row {f : List Int} {a : Nat} (h : a < f.length) : atI (f.map PyData.int) (a : Int) = some (.int (gx f a)) := by
  refine atI_nat ?_
  rw [List.getElem?_map, List.getElem?_eq_getElem h]
  unfold gx
  rw [List.getD_eq_getElem?_getD, List.getElem?_eq_getElem h]
  rfl
theorem small {n : Nat} (h : n ≤ 1000) : n ≤ sizeLine := Nat.le_of_lt (small1000 h)
/-! ### pairs of keys -/
def pairD (p : Nat × Nat) : D := .tuple [.int p.1, .int p.2]
def pairsA (n : Nat) : List (Nat × Nat) := (List.range n).flatMap fun a => (List.range n).map fun b => (a, b)
theorem mem_pairsA {n : Nat} {p : Nat × Nat} : p ∈ pairsA n ↔ p.1 < n ∧ p.2 < n := by
  unfold pairsA
  simp only [List.mem_flatMap, List.mem_range, List.mem_map]
  constructor
  · rintro ⟨a, ha, k, hk, rfl⟩
    exact ⟨ha, hk⟩
  · rintro ⟨h1, h2⟩
    exact ⟨p.1, h1, p.2, h2, rfl⟩
/-! ### families of functions -/
def rowI (f : List Int) : D := .tuple (f.map PyData.int)
def intOf : D → Int
  | .int i => i
  | _ => 0
def tupOf : D → List D
  | .tuple ds => ds
  | _ => []
theorem isRow_tup {d : D} {lo hi : Option Int} (h : isRow d lo hi = true) : d = .tuple (tupOf d) := by
  cases d <;> first | rfl | (simp [isRow] at h)
theorem isInt_int {d : D} {lo hi : Option Int} (h : isInt d lo hi = true) : d = .int (intOf d) := by
  cases d <;> first | rfl | (simp [isInt] at h)
theorem bd5 {i : Int} (h : -32 < i) (h2 : i < 32) : Bd 5 i := by
  show i.natAbs < 2 ^ 5
  omega
theorem pairsA_len {n : Nat} (h : n ≤ 30) : (pairsA n).length ≤ sizeLine := by
  refine small ?_
  have key : ∀ m : Nat, ((List.range m).flatMap fun a => (List.range n).map fun b => (a, b)).length = m * n := by
    intro m
    induction m with
    | zero => simp
    | succ m ih => rw [List.range_succ, List.flatMap_append, List.length_append, ih, Nat.succ_mul]; simp
  unfold pairsA
  rw [key]
  have : n * n ≤ 30 * 30 := Nat.mul_le_mul h h
  omega
/-! ### ratios of two numbers -/
theorem divInt_le_iff {a b c d : Int} (hb : 0 < b) (hd : 0 < d) : Rat.divInt a b ≤ Rat.divInt c d ↔ a * d ≤ c * b := by
  rw [Rat.le_iff_sub_nonneg, Rat.divInt_sub_divInt _ _ (by omega) (by omega), Rat.divInt_nonneg_iff_of_pos_right (Int.mul_pos hd hb)]
  omega
theorem divInt_lt_iff {a b c d : Int} (hb : 0 < b) (hd : 0 < d) : Rat.divInt a b < Rat.divInt c d ↔ a * d < c * b := by
  rw [← Rat.not_le, divInt_le_iff hd hb]
  omega
theorem self_divInt (q : Rat) : Rat.divInt q.num q.den = q := Rat.num_divInt_den q
/-! ### chance rows: weights over their sum -/
structure RowW (m : Nat) (ws : List Int) (S : Int) : Prop where
  len : ws.length = m
  pos : ∀ w ∈ ws, 0 ≤ w
  sum : ws.sum = S
  s1 : 1 ≤ S
  s2 : S ≤ 127
def rowD (ws : List Int) (S : Int) : D := .tuple (ws.map fun w => qD (Rat.divInt w S))
theorem qsum_div (S : Int) (hS : S ≠ 0) : ∀ ws : List Int, qsum (ws.map fun w => Rat.divInt w S) = Rat.divInt ws.sum S
  | [] => by rw [List.map_nil, List.sum_nil, Rat.zero_divInt]; rfl
  | w :: ws => by
    rw [List.map_cons, qsum_cons, qsum_div S hS ws, List.sum_cons, Rat.divInt_add_divInt _ _ hS hS, ← Int.add_mul, Rat.divInt_mul_right hS]
theorem sum_nonneg : ∀ {ws : List Int}, (∀ w ∈ ws, 0 ≤ w) → 0 ≤ ws.sum
  | [], _ => by simp
  | w :: ws, h => by
    have h1 := h w List.mem_cons_self
    have h2 := sum_nonneg (ws := ws) fun x hx => h x (List.mem_cons_of_mem _ hx)
    rw [List.sum_cons]
    omega
theorem le_sum {ws : List Int} (h : ∀ w ∈ ws, 0 ≤ w) {x : Int} (hx : x ∈ ws) : x ≤ ws.sum := by
  induction ws with
  | nil => cases hx
  | cons w ws ih =>
    have h1 := h w List.mem_cons_self
    have h2 := sum_nonneg (ws := ws) fun x hx => h x (List.mem_cons_of_mem _ hx)
    rw [List.sum_cons]
    rcases List.mem_cons.mp hx with rfl | hx
    · omega
    · have := ih (fun y hy => h y (List.mem_cons_of_mem _ hy)) hx
      omega
theorem bdN {n : Nat} {i : Int} (h : i.natAbs < 2 ^ n) : Bd n i := h
theorem bd7 {i : Int} (h : 0 ≤ i) (h2 : i ≤ 127) : Bd 7 i := by
  show i.natAbs < 2 ^ 7
  omega
/-- nonnegative numbers over S whose sum is at most B: all on the way are small -/
theorem sums_div {n : Nat} {ws : List Int} {S : Int} (hS : 0 < S) (hp : ∀ w ∈ ws, 0 ≤ w) (hb : Bd n ws.sum) (hs : Bd n S) : Sums n (ws.map fun w => Rat.divInt w S) := by
  refine ⟨fun x hx => ?_, fun d e he => ?_⟩
  · obtain ⟨w, hw, rfl⟩ := List.mem_map.mp hx
    have h1 := hp w hw
    have h2 := le_sum hp hw
    exact Sz.divInt (hb.le (by omega)) hs (by omega) (Nat.le_refl _) (Nat.le_refl _)
  · obtain ⟨d', e', rfl, rfl, rfl⟩ := List.map_eq_append_iff.mp he
    rw [qsum_div S (by omega)]
    have h1 := sum_nonneg (ws := d') fun w hw => hp w (by simp [hw])
    have h2 := sum_nonneg (ws := e') fun w hw => hp w (by simp [hw])
    rw [List.sum_append] at hb
    exact Sz.divInt (hb.le (by omega)) hs (by omega) (Nat.le_refl _) (Nat.le_refl _)
def φ__law_row : Phi := fun as P _ => ∃ m : Nat, as = [.dr, .fz (.int m)] ∧ 1 ≤ m ∧ m ≤ 30 ∧ ∀ ws S, RowW m ws S → P (rowD ws S)
theorem paired_ints {α : Type} {R : Int → Prop} {l : List α} {ys : List D} (h : Paired (fun _ y => ∃ i, y = PyData.int i ∧ R i) l ys) : ∃ ws : List Int, ys = ws.map PyData.int ∧ ws.length = l.length ∧ ∀ w ∈ ws, R w := by
  induction h with
  | nil => exact ⟨[], rfl, rfl, nofun⟩
  | cons h1 _ ih =>
    obtain ⟨i, rfl, hi⟩ := h1
    obtain ⟨ws, rfl, h2, h3⟩ := ih
    exact ⟨i :: ws, rfl, by simp [h2], fun w hw => by
      rcases List.mem_cons.mp hw with rfl | hw
      · exact hi
      · exact h3 w hw⟩
theorem sum_le_mul : ∀ {ws : List Int} {B : Int}, (∀ w ∈ ws, w ≤ B) → ws.sum ≤ B * ws.length
  | [], B, _ => by simp
  | w :: ws, B, h => by
    have h1 := h w List.mem_cons_self
    have h2 := sum_le_mul (ws := ws) (B := B) fun x hx => h x (List.mem_cons_of_mem _ hx)
    rw [List.sum_cons, List.length_cons]
    have : B * ((ws.length + 1 : Nat) : Int) = B * ws.length + B := by rw [Int.natCast_succ, Int.mul_add, Int.mul_one]
    omega
theorem sum_set : ∀ {ws : List Int} {j : Nat} {x : Int}, (h : j < ws.length) → (ws.set j x).sum = ws.sum - ws[j] + x
  | w :: ws, 0, x, _ => by simp; omega
  | w :: ws, j + 1, x, h => by
    have := sum_set (ws := ws) (j := j) (x := x) (by simpa using h)
    simp only [List.set_cons_succ, List.sum_cons, this, List.getElem_cons_succ]
    omega
def φ__law_pairs_below : Phi := fun as P _ => ∃ n : Nat, as = [.fz (.int n)] ∧ n ≤ 30 ∧ P (.list ((pairsA n).map pairD))
theorem rep_one (x : D) (k : Nat) : repD (k : Int) [x] = List.replicate k x := by
  unfold repD
  rw [Int.toNat_natCast]
  induction k with
  | zero => rfl
  | succ k ih => rw [List.replicate_succ, List.flatten_cons, ih, List.replicate_succ]; rfl
theorem bd20 {i : Int} (h : 0 ≤ i) (h2 : i ≤ 1000000) : Bd 20 i := by
  show i.natAbs < 2 ^ 20
  omega
theorem row_sz {n : Nat} {ws : List Int} {S : Int} (h : RowW n ws S) {w : Int} (hw : w ∈ ws) : Sz 7 (Rat.divInt w S) := by
  have s1 := h.s1
  have s2 := h.s2
  have h1 := h.pos w hw
  have h2 := le_sum h.pos hw
  rw [h.sum] at h2
  exact Sz.divInt (bd7 h1 (by omega)) (bd7 (by omega) s2) (by omega) (Nat.le_refl _) (Nat.le_refl _)
theorem divInt_eq {a b c d : Int} (hb : b ≠ 0) (hd : d ≠ 0) (h : a * d = c * b) : Rat.divInt a b = Rat.divInt c d := (Rat.divInt_eq_divInt_iff hb hd).mpr h
/-- a ratio's own parts, against any that make it -/
theorem parts {c T : Int} (hT : T ≠ 0) : (Rat.divInt c T).num * T = c * (Rat.divInt c T).den := (Rat.divInt_eq_divInt_iff (den_ne _) hT).mp (self_divInt _)
theorem divInt_add {a b T : Int} (hT : T ≠ 0) : Rat.divInt a T + Rat.divInt b T = Rat.divInt (a + b) T := by
  rw [Rat.divInt_add_divInt _ _ hT hT, ← Int.add_mul, Rat.divInt_mul_right hT]
theorem int_qD (i : Int) : qD (i : Rat) = .tuple [.int i, .int 1] := rfl
theorem int_divInt (i : Int) : (i : Rat) = Rat.divInt i 1 := (Rat.num_divInt_den (i : Rat)).symm
theorem qD0 (q : Rat) (Q : D → Prop) : dSub1 (qD q) (.int 0) Q = Q (.int q.num) := by simp only [qD, true_and, wpSs, wpS, wpE, wpX, wpO, wpC, wpI, ent, kt0, bindT, bindTs, tgsLen, wipeR, constD, owL, List.map_cons, List.map_nil, List.length_cons, List.length_nil, List.replicate, List.cons_append, List.nil_append, Nat.reduceSub, Nat.reduceAdd, List.getElem?_cons_zero, List.getElem?_cons_succ, List.getElem?_nil, List.set_cons_zero, List.set_cons_succ, opF, cmpF, Bi.fd, Option.map_some, if_true, if_false, Bool.true_eq_false, Bool.false_eq_true, reduceIte, Bool.not_true, Bool.not_false, w_some, w_none, w_fz0, w_fz1, w_t0, w_t1, w_t2, w_t3, w_t4, w_add, w_addL, w_addT, w_sub, w_subB, w_mul, w_mulL, w_mulT, w_mod, w_div, w_lt, w_le, w_gt, w_ge, w_is, w_isnt, w_n0, w_n1, w_n2, w_n3, w_n4, w_neg, w_atL, w_atT, w_lenL, w_lenT, w_tupL, w_tupT, w_lisL, w_lisT, w_abs, w_int, w_intB, w_gcd, w_min, w_max, w_seqL, w_seqT, w_augA, w_augS, w_augM, w_intQ, w_lstQ, w_rng1, w_rng2, w_zipL, w_zipT, w_zipM, w_zipN, w_enum, w_enumT, atI0]
theorem qD1 (q : Rat) (Q : D → Prop) : dSub1 (qD q) (.int 1) Q = Q (.int q.den) := by simp only [qD, true_and, wpSs, wpS, wpE, wpX, wpO, wpC, wpI, ent, kt0, bindT, bindTs, tgsLen, wipeR, constD, owL, List.map_cons, List.map_nil, List.length_cons, List.length_nil, List.replicate, List.cons_append, List.nil_append, Nat.reduceSub, Nat.reduceAdd, List.getElem?_cons_zero, List.getElem?_cons_succ, List.getElem?_nil, List.set_cons_zero, List.set_cons_succ, opF, cmpF, Bi.fd, Option.map_some, if_true, if_false, Bool.true_eq_false, Bool.false_eq_true, reduceIte, Bool.not_true, Bool.not_false, w_some, w_none, w_fz0, w_fz1, w_t0, w_t1, w_t2, w_t3, w_t4, w_add, w_addL, w_addT, w_sub, w_subB, w_mul, w_mulL, w_mulT, w_mod, w_div, w_lt, w_le, w_gt, w_ge, w_is, w_isnt, w_n0, w_n1, w_n2, w_n3, w_n4, w_neg, w_atL, w_atT, w_lenL, w_lenT, w_tupL, w_tupT, w_lisL, w_lisT, w_abs, w_int, w_intB, w_gcd, w_min, w_max, w_seqL, w_seqT, w_augA, w_augS, w_augM, w_intQ, w_lstQ, w_rng1, w_rng2, w_zipL, w_zipT, w_zipM, w_zipN, w_enum, w_enumT, atI1]
theorem dNeB {a b : Bool} {Q : D → Prop} (h : Q (.bool (!decide (a = b)))) : dNe (.bool a) (.bool b) Q := dNeT (α := Bool) h
theorem dNeQ {a b : Rat} {Q : D → Prop} (h : Q (.bool (!decide (a = b)))) : dNe (qD a) (qD b) Q := dNeT (α := Rat) h
theorem dNeTu {a b : List Rat} {Q : D → Prop} (h : Q (.bool (!decide (a = b)))) : dNe (.tuple (a.map qD)) (.tuple (b.map qD)) Q := by
  have := dNeT (α := Tu Rat) (x := ⟨a⟩) (y := ⟨b⟩) (Q := Q) (by
    rw [show decide ((⟨a⟩ : Tu Rat) = ⟨b⟩) = decide (a = b) from decide_eq_decide.mpr ⟨fun e => congrArg Tu.l e, fun e => by rw [e]⟩]
    exact h)
  exact this
theorem dNe_nil {Q : D → Prop} (h : Q (.bool false)) : dNe (.list []) (.list []) Q := ⟨rfl, rfl, h⟩
theorem dEq_nil {Q : D → Prop} (h : Q (.bool true)) : dEq (.list []) (.list []) Q := ⟨rfl, rfl, h⟩

theorem atI_last1 {α : Type} (l : List α) (x : α) : atI (l ++ [x]) (-1) = some x := atI_last l x
def stsGet : Nat → Sts → DL.St
  | 0, .cons s _ => s
  | k + 1, .cons _ ss => stsGet k ss
  | _, .nil => .pss
def stsDrop : Nat → Sts → Sts
  | 0, ss => ss
  | k + 1, .cons _ ss => stsDrop k ss
  | _ + 1, .nil => .nil
theorem paired_rows {α : Type} {R : List Int → Prop} {l : List α} {ys : List D} (h : Paired (fun _ y => ∃ f, y = rowI f ∧ R f) l ys) : ∃ fs : List (List Int), ys = fs.map rowI ∧ fs.length = l.length ∧ ∀ f ∈ fs, R f := by
  induction h with
  | nil => exact ⟨[], rfl, rfl, nofun⟩
  | cons h1 _ ih =>
    obtain ⟨i, rfl, hi⟩ := h1
    obtain ⟨ws, rfl, h2, h3⟩ := ih
    exact ⟨i :: ws, rfl, by simp [h2], fun w hw => by
      rcases List.mem_cons.mp hw with rfl | hw
      · exact hi
      · exact h3 w hw⟩
theorem if_no {A B : Prop} (h : B) : (optQ (truD (.bool false)) fun c => if c = true then A else B) := h
theorem if_yes {A B : Prop} (h : A) : (optQ (truD (.bool true)) fun c => if c = true then A else B) := h
theorem dNeB_same {a : Bool} {Q : D → Prop} (h : Q (.bool false)) : dNe (.bool a) (.bool a) Q := dNeB (by rw [decide_eq_true (rfl : a = a)]; exact h)
theorem dNeI_same {i : Int} {Q : D → Prop} (h : Q (.bool false)) : dNe (.int i) (.int i) Q := dNeI (by rw [decide_eq_true (rfl : i = i)]; exact h)
end DL

set_option Elab.async false
set_option linter.all false
set_option maxRecDepth 100000
set_option maxHeartbeats 4000000
namespace DL
open PySem PySem.Spec PyProof.Rows L2
/-! ### rows of ratios, channels, gains -/
def rowQ (l : List Rat) : D := .tuple (l.map qD)
def chQ (c : List (List Rat)) : D := .tuple (c.map rowQ)
def gnD (g : List (List Int)) : D := .tuple (g.map rowI)
/-- a chance row -/
structure ChR (n : Nat) (l : List Rat) : Prop where
  len : l.length = n
  pos : ∀ x ∈ l, 0 ≤ x
  sum : qsum l = 1
  sz : ∀ x ∈ l, Sz 7 x
structure ChC (m n : Nat) (c : List (List Rat)) : Prop where
  len : c.length = m
  row : ∀ r ∈ c, ChR n r
structure GnR (m most : Nat) (g : List (List Int)) : Prop where
  l1 : 1 ≤ g.length
  l2 : g.length ≤ most
  row : ∀ r ∈ g, r.length = m ∧ ∀ x ∈ r, -3 ≤ x ∧ x ≤ 5
theorem divInt_nonneg {a b : Int} (ha : 0 ≤ a) (hb : 0 < b) : 0 ≤ Rat.divInt a b := by
  have := (divInt_le_iff (a := 0) (b := 1) (c := a) (d := b) (by decide) hb).mpr (by omega)
  have e : Rat.divInt 0 1 = 0 := Rat.zero_divInt _
  rwa [e] at this
theorem RowW.chr {m : Nat} {ws : List Int} {S : Int} (h : RowW m ws S) : ChR m (ws.map fun w => Rat.divInt w S) where
  len := by rw [List.length_map]; exact h.len
  pos x hx := by
    obtain ⟨w, hw, rfl⟩ := List.mem_map.mp hx
    have := h.s1
    exact divInt_nonneg (h.pos w hw) (by omega)
  sum := by
    have := h.s1
    rw [qsum_div S (by omega), h.sum]
    exact divInt_eq (c := 1) (d := 1) (by omega) (by decide) (by omega)
  sz x hx := by
    obtain ⟨w, hw, rfl⟩ := List.mem_map.mp hx
    exact row_sz h hw
theorem rowD_rowQ (ws : List Int) (S : Int) : rowD ws S = rowQ (ws.map fun w => Rat.divInt w S) := by
  unfold rowD rowQ
  rw [List.map_map]
  rfl
theorem paired_map {α β : Type} {emb : β → D} {R : β → Prop} {l : List α} {ys : List D} (h : Paired (fun _ y => ∃ f, y = emb f ∧ R f) l ys) : ∃ fs : List β, ys = fs.map emb ∧ fs.length = l.length ∧ ∀ f ∈ fs, R f := by
  induction h with
  | nil => exact ⟨[], rfl, rfl, nofun⟩
  | cons h1 _ ih =>
    obtain ⟨i, rfl, hi⟩ := h1
    obtain ⟨ws, rfl, h2, h3⟩ := ih
    exact ⟨i :: ws, rfl, by simp [h2], fun w hw => by
      rcases List.mem_cons.mp hw with rfl | hw
      · exact hi
      · exact h3 w hw⟩
theorem at_map {α : Type} {emb : α → D} {l : List α} {k : Nat} {x : α} (h : l[k]? = some x) : atI (l.map emb) (k : Int) = some (emb x) := atI_nat (by rw [List.getElem?_map, h]; rfl)
theorem at_map0 {α : Type} {emb : α → D} {x : α} {l : List α} : atI ((x :: l).map emb) 0 = some (emb x) := at_map (k := 0) rfl
theorem ixN_nat {n j : Nat} (h : j < n) : ixN n (j : Int) = some j := by
  unfold ixN
  rw [if_pos (by omega), if_pos (by omega), Int.toNat_natCast]
def φ__law_channel : Phi := fun as P _ => ∃ m n : Nat, as = [.dr, .fz (.int m), .fz (.int n)] ∧ 1 ≤ m ∧ m ≤ 30 ∧ 1 ≤ n ∧ n ≤ 30 ∧ ∀ c, ChC m n c → P (chQ c)
def φ__law_gains : Phi := fun as P _ => ∃ m most : Nat, as = [.dr, .fz (.int m), .fz (.int most)] ∧ m ≤ 30 ∧ 1 ≤ most ∧ most ≤ 30 ∧ ∀ g, GnR m most g → P (gnD g)
/-! ### sums of products -/
def dot (w : List Rat) (g : List Int) : Rat := qsum (w.zipWith (fun p (n : Int) => p * n) g)
theorem zipD_map2 {α β : Type} (f : α → D) (g : β → D) (l : List α) (l2 : List β) : zipD (l.map f) (l2.map g) = (l.zip l2).map fun p => PyData.tuple [f p.1, g p.2] := by
  unfold zipD
  rw [List.zipWith_map, List.zip, List.map_zipWith]
theorem zipWith_zip {α β γ : Type} (f : α → β → γ) (l : List α) (l2 : List β) : l.zipWith f l2 = (l.zip l2).map fun p => f p.1 p.2 := by
  rw [List.zip, List.map_zipWith]
theorem Sz.ofInt {n : Nat} {i : Int} (h : Bd n i) (h1 : 1 ≤ n) : Sz n (i : Rat) := by
  refine ⟨h, ?_⟩
  show (1 : Int).natAbs < 2 ^ n
  exact Nat.lt_of_lt_of_le (show 1 < 2 ^ 1 by decide) (Nat.pow_le_pow_right (by decide) h1)
theorem mem_zip {α β : Type} {l : List α} {l2 : List β} {p : α × β} (h : p ∈ l.zip l2) : p.1 ∈ l ∧ p.2 ∈ l2 := ⟨(List.of_mem_zip h).1, (List.of_mem_zip h).2⟩
/-- the digits of a sum of so many items -/
def sumSz (L n : Nat) : Nat := L * (n + 1) + n + 1
theorem le_sumSz (L n : Nat) : n ≤ sumSz L n := by unfold sumSz; omega
theorem Sums.mono {m n : Nat} {l : List Rat} (h : Sums m l) (q : m ≤ n) : Sums n l := ⟨fun x hx => (h.it x hx).mono q, fun d e he => (h.su d e he).mono q⟩
theorem Sums.all {m : Nat} {l : List Rat} (h : Sums m l) : Sz m (qsum l) := h.su l [] (by simp)
theorem sums_le {L n : Nat} {l : List Rat} (hl : l.length ≤ L) (h : ∀ x ∈ l, Sz n x) : Sums (sumSz L n) l := by
  refine (Sums.grow h).mono ?_
  unfold sumSz
  have := Nat.mul_le_mul_right (n + 1) hl
  omega
theorem dot_sums {L s t : Nat} {w : List Rat} {g : List Int} (hl : w.length ≤ L) (hw : ∀ x ∈ w, Sz s x) (hg : ∀ x ∈ g, Bd t x) (ht : 1 ≤ t) : Sums (sumSz L (s + t)) (w.zipWith (fun p (n : Int) => p * n) g) := by
  refine sums_le (by rw [List.length_zipWith]; omega) fun x hx => ?_
  rw [zipWith_zip] at hx
  obtain ⟨p, hp, rfl⟩ := List.mem_map.mp hx
  exact (hw _ (mem_zip hp).1).mul (Sz.ofInt (hg _ (mem_zip hp).2) ht) (Nat.le_refl _)
structure DotOk (L s t : Nat) (w : List Rat) (g : List Int) : Prop where
  l : w.length ≤ L
  w : ∀ x ∈ w, Sz s x
  g : ∀ x ∈ g, Bd t x
  t1 : 1 ≤ t
  sm : sumSz L (s + t) < 3990
def φ_expected : Phi := fun as P _ => ∃ (b : Bool) (w : List Rat) (g : List Int) (L s t : Nat), as = [.fz (seqD b (w.map qD)), .fz (rowI g)] ∧ DotOk L s t w g ∧ P (qD (dot w g))
theorem zipW_seq {b : Bool} {x y : List D} {P : List D → Prop} (h : P (zipD x y)) : zipW (seqD b x) (.tuple y) P := by
  cases b <;> exact h
/-! ### the first greatest -/
def bestUp (o : Option (Rat × Nat)) (v : Rat) (k : Nat) : Option (Rat × Nat) := match o with
  | none => some (v, k)
  | some p => if p.1 < v then some (v, k) else some p
/-- the greatest so far and its place, over the values so far -/
def bestI (f : Nat → Rat) : Nat → Option (Rat × Nat)
  | 0 => none
  | n + 1 => bestUp (bestI f n) (f n) n
def mx (b : Rat) (vs : List Rat) : Rat := vs.foldl (fun b v => if b < v then v else b) b
def mxL : List Rat → Rat
  | [] => 0
  | v :: vs => mx v vs
theorem mx_ge (b : Rat) (vs : List Rat) : b ≤ mx b vs := by
  induction vs generalizing b with
  | nil => exact Rat.le_refl
  | cons v vs ih =>
    show b ≤ mx (if b < v then v else b) vs
    refine Rat.le_trans ?_ (ih _)
    split
    · exact Rat.le_of_lt ‹_›
    · exact Rat.le_refl
theorem mx_mem (b : Rat) (vs : List Rat) : ∀ v ∈ vs, v ≤ mx b vs := by
  induction vs generalizing b with
  | nil => nofun
  | cons v vs ih =>
    intro x hx
    show x ≤ mx (if b < v then v else b) vs
    rcases List.mem_cons.mp hx with rfl | hx
    · refine Rat.le_trans ?_ (mx_ge _ _)
      split
      · exact Rat.le_refl
      · exact Rat.not_lt.mp ‹_›
    · exact ih _ x hx
theorem mx_is (b : Rat) (vs : List Rat) : mx b vs = b ∨ mx b vs ∈ vs := by
  induction vs generalizing b with
  | nil => exact .inl rfl
  | cons v vs ih =>
    show mx (if b < v then v else b) vs = b ∨ mx (if b < v then v else b) vs ∈ v :: vs
    rcases ih (if b < v then v else b) with h | h
    · rw [h]
      split
      · exact .inr List.mem_cons_self
      · exact .inl rfl
    · exact .inr (List.mem_cons_of_mem _ h)
theorem mx_snoc (b : Rat) (vs : List Rat) (v : Rat) : mx b (vs ++ [v]) = if mx b vs < v then v else mx b vs := by
  unfold mx
  rw [List.foldl_append]
  rfl
theorem mx_le {b B : Rat} {vs : List Rat} (hb : b ≤ B) (h : ∀ v ∈ vs, v ≤ B) : mx b vs ≤ B := by
  rcases mx_is b vs with e | e
  · rw [e]; exact hb
  · exact h _ e
theorem mx_self (v : Rat) (vs : List Rat) : mx v (v :: vs) = mx v vs := by
  show mx (if v < v then v else v) vs = _
  rw [ite_self]
theorem mxL_mem {vs : List Rat} : ∀ v ∈ vs, v ≤ mxL vs := by
  cases vs with
  | nil => nofun
  | cons x vs =>
    intro v hv
    rcases List.mem_cons.mp hv with rfl | hv
    · exact mx_ge _ _
    · exact mx_mem _ _ _ hv
theorem mxL_is {vs : List Rat} (h : vs ≠ []) : mxL vs ∈ vs := by
  cases vs with
  | nil => exact absurd rfl h
  | cons x vs =>
    rcases mx_is x vs with e | e
    · show mx x vs ∈ _
      rw [e]; exact List.mem_cons_self
    · exact List.mem_cons_of_mem _ e
theorem mxL_snoc {vs : List Rat} (h : vs ≠ []) (v : Rat) : mxL (vs ++ [v]) = if mxL vs < v then v else mxL vs := by
  cases vs with
  | nil => exact absurd rfl h
  | cons x vs => exact mx_snoc x vs v
theorem bestI_val {f : Nat → Rat} : ∀ n, 0 < n → ∃ k, k < n ∧ bestI f n = some (mxL ((List.range n).map f), k) ∧ f k = mxL ((List.range n).map f)
  | 1, _ => ⟨0, by decide, rfl, rfl⟩
  | n + 2, _ => by
    obtain ⟨k, hk, e, ek⟩ := bestI_val (f := f) (n + 1) (by omega)
    have hne : (List.range (n + 1)).map f ≠ [] := by
      intro z
      have := congrArg List.length z
      simp at this
    rw [List.range_succ (n := n + 1), List.map_append, List.map_cons, List.map_nil, mxL_snoc hne]
    show ∃ k, k < n + 2 ∧ bestUp (bestI f (n + 1)) (f (n + 1)) (n + 1) = _ ∧ _
    rw [e]
    unfold bestUp
    by_cases c : mxL ((List.range (n + 1)).map f) < f (n + 1)
    · simp only [if_pos c]
      exact ⟨n + 1, by omega, rfl, rfl⟩
    · simp only [if_neg c]
      exact ⟨k, by omega, rfl, ek⟩
def bestD : Option (Rat × Nat) → D
  | none => .none
  | some p => .tuple [qD p.1, .int p.2]
/-- the greatest worth of a guess -/
def gv (gs : List (List Int)) (w : List Rat) : Rat := mxL (gs.map (dot w))
theorem gv_range (gs : List (List Int)) (w : List Rat) : (List.range gs.length).map (fun k => dot w (gs.getD k [])) = gs.map (dot w) := by
  refine List.ext_getElem (by simp) fun i h1 h2 => ?_
  simp only [List.length_map] at h2
  simp [h2]
structure BestOk (L s t : Nat) (w : List Rat) (gs : List (List Int)) : Prop where
  ne : gs ≠ []
  ok : ∀ g ∈ gs, DotOk L s t w g
def φ_best_of : Phi := fun as P _ => ∃ (b : Bool) (w : List Rat) (gs : List (List Int)) (L s t : Nat), as = [.fz (seqD b (w.map qD)), .fz (gnD gs)] ∧ BestOk L s t w gs ∧
  ∀ k : Nat, k < gs.length → dot w (gs.getD k []) = gv gs w → P (.tuple [qD (gv gs w), .int k])
def φ__law_best_guess : Phi := fun as P _ => ∃ (b : Bool) (w : List Rat) (gs : List (List Int)) (L s t : Nat), as = [.fz (seqD b (w.map qD)), .fz (gnD gs)] ∧ BestOk L s t w gs ∧ gs.length ≤ 1000 ∧ P (qD (gv gs w))
theorem gv_sz {L s t : Nat} {w : List Rat} {gs : List (List Int)} (h : BestOk L s t w gs) : Sz (sumSz L (s + t)) (gv gs w) := by
  obtain ⟨g, hg, e⟩ := List.mem_map.mp (mxL_is (vs := gs.map (dot w)) (by simpa using h.ne))
  show Sz _ (mxL _)
  rw [← e]
  have := h.ok g hg
  exact (dot_sums this.l this.w this.g this.t1).all
/-! ### a column, weighted -/
def colQ (w : List Rat) (c : List (List Rat)) (y : Nat) : List Rat := w.zipWith (fun p r => p * r.getD y 0) c
def sg (c : List (List Rat)) : Nat := (c.headD []).length
def φ_signs_of : Phi := fun as P _ => ∃ (r : List Rat) (c : List (List Rat)), as = [.fz (chQ (r :: c))] ∧ P (.int r.length)
structure ColOk (s t : Nat) (w : List Rat) (c : List (List Rat)) (y : Nat) : Prop where
  hw : ∀ x ∈ w, Sz s x
  hc : ∀ r ∈ c, ∀ x ∈ r, Sz t x
  hy : ∀ r ∈ c, y < r.length
  l : w.length ≤ 1000
  sm : s + t < 4000
def φ_column_of : Phi := fun as P _ => ∃ (b : Bool) (w : List Rat) (c : List (List Rat)) (y s t : Nat), as = [.fz (seqD b (w.map qD)), .fz (chQ c), .fz (.int y)] ∧ ColOk s t w c y ∧ P (.tuple ((colQ w c y).map qD))
def φ__law_behind : Phi := fun as P _ => ∃ (b : Bool) (w : List Rat) (c : List (List Rat)) (y s t : Nat), as = [.fz (seqD b (w.map qD)), .fz (chQ c), .fz (.int y)] ∧ ColOk s t w c y ∧ P (.list ((colQ w c y).map qD))
theorem col_sz {s t : Nat} {w : List Rat} {c : List (List Rat)} {y : Nat} (h : ColOk s t w c y) : ∀ x ∈ colQ w c y, Sz (s + t) x := fun x hx => by
  unfold colQ at hx
  rw [zipWith_zip] at hx
  obtain ⟨p, hp, rfl⟩ := List.mem_map.mp hx
  have hy := h.hy _ (mem_zip hp).2
  refine (h.hw _ (mem_zip hp).1).mul (h.hc _ (mem_zip hp).2 _ ?_) (Nat.le_refl _)
  rw [List.getD_eq_getElem?_getD, List.getElem?_eq_getElem hy]
  exact List.getElem_mem hy
theorem col_len {w : List Rat} {c : List (List Rat)} {y : Nat} (h : w.length = c.length) : (colQ w c y).length = w.length := by
  unfold colQ
  rw [List.length_zipWith]
  omega
theorem getD_mem {α : Type} {l : List α} {k : Nat} (d : α) (h : k < l.length) : l.getD k d ∈ l := by
  rw [List.getD_eq_getElem?_getD, List.getElem?_eq_getElem h]
  exact List.getElem_mem h
theorem getD_some {α : Type} {l : List α} {k : Nat} (d : α) (h : k < l.length) : l[k]? = some (l.getD k d) := by
  rw [List.getD_eq_getElem?_getD, List.getElem?_eq_getElem h]
  rfl
/-! ### rows with one more number -/
def longer (rows : List (List Int)) (many : Nat) : List (List Int) := rows.flatMap fun r => (List.range many).map fun (k : Nat) => r ++ [(k : Int)]
def φ__law_longer : Phi := fun as P _ => ∃ (rows : List (List Int)) (many : Nat), as = [.fz (.list (rows.map rowI)), .fz (.int many)] ∧ many ≤ 1000 ∧ rows.length ≤ 1000 ∧ (∀ r ∈ rows, r.length ≤ 1000) ∧ P (.list ((longer rows many).map rowI))
theorem longer_len (rows : List (List Int)) (many : Nat) : (longer rows many).length = rows.length * many := by
  unfold longer
  rw [List.length_flatMap]
  simp [List.map_const', List.sum_replicate_nat]

theorem less_q {p q : Rat} {m n : Nat} {P : D → Prop} {PE : Str → Prop} (hp : Sz m p) (hq : Sz n q) (hl : m + n < 8000) (h : P (.bool (decide (p < q)))) : φ__law_less [.fz (qD p), .fz (qD q)] P PE := by
  refine ⟨_, _, _, _, m, n, rfl, hp.num, hp.den, hq.num, hq.den, hl, ?_⟩
  rwa [show decide (p.num * (q.den : Int) < q.num * p.den) = decide (p < q) from decide_eq_decide.mpr (Rat.lt_iff ..).symm]
def φ_is_number_below : Phi := fun as P _ => ∃ (d : D) (i : Int), as = [.fz d, .fz (.int i)] ∧ P (.bool (isInt d (some 0) (some (i - 1))))
theorem cmpQ_gt {p q : Rat} : cmpQ p q > 0 ↔ q < p := by
  unfold cmpQ
  by_cases h1 : q < p
  · simp [h1]
  · rw [if_neg h1]
    simp only [h1, iff_false]
    split <;> decide

/-! ### loops by the place -/
theorem range_split {n : Nat} {done : List Nat} {x : Nat} {rest : List Nat} (e : List.range n = done ++ x :: rest) : x = done.length ∧ done.length < n ∧ done = List.range done.length := by
  have hl : done.length < n := by
    have := congrArg List.length e
    simp at this
    omega
  have h1 := congrArg (fun l => l[done.length]?) e
  simp only [List.getElem?_append_right (Nat.le_refl _), Nat.sub_self, List.getElem?_cons_zero, List.getElem?_range hl] at h1
  refine ⟨(Option.some.inj h1).symm, hl, ?_⟩
  have h2 := congrArg (List.take done.length) e
  rw [List.take_left, List.take_range, Nat.min_eq_left (by omega)] at h2
  exact h2.symm
theorem forW_ix {g : Nat → D} {n : Nat} {body : D → Rho → (Rho → Prop) → Prop} {Q : Rho → Prop} (I : Nat → Rho → Prop) {ρ : Rho} (h0 : I 0 ρ)
    (hs : ∀ k ρ kk, k < n → I k ρ → (∀ ρ', I (k + 1) ρ' → kk ρ') → body (g k) ρ kk) (hd : ∀ ρ, I n ρ → Q ρ) : forW body ((List.range n).map g) ρ Q := by
  refine forW_inv (I := fun done ρ => I done.length ρ) h0 (fun done x rest ρ kk e hI hk => ?_) (fun ρ h => hd ρ (by rw [List.length_range] at h; exact h))
  obtain ⟨rfl, hl, _⟩ := range_split e
  exact hs _ _ _ hl hI fun ρ' h => hk ρ' (by rw [List.length_append, List.length_singleton]; exact h)
theorem foldW_ix {g : Nat → D} {n : Nat} {step : D → List D → (List D → Prop) → Prop} {Q : List D → Prop} (I : Nat → List D → Prop) {acc : List D} (h0 : I 0 acc)
    (hs : ∀ k acc kk, k < n → I k acc → (∀ acc', I (k + 1) acc' → kk acc') → step (g k) acc kk) (hd : ∀ acc, I n acc → Q acc) : foldW step ((List.range n).map g) acc Q := by
  refine foldW_inv (I := fun done acc => I done.length acc) h0 (fun done x rest acc kk e hI hk => ?_) (fun acc h => hd acc (by rw [List.length_range] at h; exact h))
  obtain ⟨rfl, hl, _⟩ := range_split e
  exact hs _ _ _ hl hI fun acc' h => hk acc' (by rw [List.length_append, List.length_singleton]; exact h)
theorem map_ix {α : Type} (emb : α → D) (d : α) (l : List α) : l.map emb = (List.range l.length).map fun k => emb (l.getD k d) := by
  refine List.ext_getElem (by simp) fun i h1 h2 => ?_
  simp only [List.length_map] at h1
  simp [h1]
theorem enumD_map {α : Type} (emb : α → D) (d : α) (l : List α) : enumD (l.map emb) = (List.range l.length).map fun (k : Nat) => PyData.tuple [.int k, emb (l.getD k d)] := by
  refine List.ext_getElem? fun i => ?_
  by_cases hi : i < l.length
  · rw [enumD_get (d := emb (l.getD i d)) (by rw [List.getElem?_map, getD_some d hi]; rfl), List.getElem?_map, List.getElem?_range hi]
    rfl
  · rw [List.getElem?_eq_none (by rw [enumD_length, List.length_map]; omega), List.getElem?_eq_none (by simp; omega)]
theorem cmp_gt (p q : Rat) : decide (cmpQ p q > 0) = decide (q < p) := decide_eq_decide.mpr cmpQ_gt
end DL

set_option Elab.async false
set_option linter.all false
set_option maxRecDepth 100000
set_option maxHeartbeats 4000000
namespace DL
open PySem PySem.Spec PyProof.Rows L2
/-! ### more of data -/
theorem cutL_lo {α : Type} (l : List α) (k : Nat) : cutL l (some (k : Int)) none = l.drop k := by
  unfold cutL
  rw [HT.sIx_nat, HT.sIx_none]
  rcases Nat.le_total k l.length with h | h
  · rw [Nat.min_eq_left h]
    exact List.take_of_length_le (by rw [List.length_drop]; omega)
  · rw [Nat.min_eq_right h, List.drop_of_length_le h, List.drop_of_length_le (Nat.le_refl _), List.take_nil]
theorem cutL_hi {α : Type} (l : List α) (k : Nat) : cutL l none (some (k : Int)) = l.take k := by
  unfold cutL
  rw [HT.sIx_none, HT.sIx_nat, List.drop_zero, Nat.sub_zero]
  rcases Nat.le_total k l.length with h | h
  · rw [Nat.min_eq_left h]
  · rw [Nat.min_eq_right h, List.take_of_length_le h, List.take_of_length_le (Nat.le_refl _)]
theorem w_cutT {a : List D} {lo hi : Option Int} {Q : D → Prop} : dCut (.tuple a) lo hi Q = Q (.tuple (cutL a lo hi)) := rfl
theorem w_cutL {a : List D} {lo hi : Option Int} {Q : D → Prop} : dCut (.list a) lo hi Q = Q (.list (cutL a lo hi)) := rfl
theorem shpS {a : Str} (h : PyData.canLay0 (.str a) = true) : shp (.str a) := by
  unfold shp SeqAt.shaped
  rw [h]
  rfl
theorem eqvS (a b : Str) : PyData.eqv (.str a) (.str b) = decide (a = b) := by
  rw [PyData.eqv]
  rw [Bool.eq_iff_iff, beq_iff_eq, decide_eq_true_iff]
theorem dEqS {a b : Str} {Q : D → Prop} (ha : PyData.canLay0 (.str a) = true) (hb : PyData.canLay0 (.str b) = true) (h : Q (.bool (decide (a = b)))) : dEq (.str a) (.str b) Q := ⟨shpS ha, shpS hb, by rw [eqvS]; exact h⟩
theorem dNeS {a b : Str} {Q : D → Prop} (ha : PyData.canLay0 (.str a) = true) (hb : PyData.canLay0 (.str b) = true) (h : Q (.bool (!decide (a = b)))) : dNe (.str a) (.str b) Q := ⟨shpS ha, shpS hb, by rw [eqvS]; exact h⟩
theorem dEqTuI {a b : List Int} {Q : D → Prop} (h : Q (.bool (decide (a = b)))) : dEq (rowI a) (rowI b) Q := by
  have := dEqT (α := Tu Int) (x := ⟨a⟩) (y := ⟨b⟩) (Q := Q) (by
    rw [show decide ((⟨a⟩ : Tu Int) = ⟨b⟩) = decide (a = b) from decide_eq_decide.mpr ⟨fun e => congrArg Tu.l e, fun e => by rw [e]⟩]
    exact h)
  exact this
/-- a list or tuple that has items is not () -/
theorem dNe_tup0 {a : List D} {Q : D → Prop} (hs : shp (.tuple a)) (h : Q (.bool (!a.isEmpty))) : dNe (.tuple a) (.tuple []) Q := by
  refine ⟨hs, rfl, ?_⟩
  cases a with
  | nil => exact h
  | cons x a => exact h
theorem dEq_tup0 {a : List D} {Q : D → Prop} (hs : shp (.tuple a)) (h : Q (.bool a.isEmpty)) : dEq (.tuple a) (.tuple []) Q := by
  refine ⟨hs, rfl, ?_⟩
  cases a with
  | nil => exact h
  | cons x a => exact h
theorem dEq_list0 {a : List D} {Q : D → Prop} (hs : shp (.list a)) (h : Q (.bool a.isEmpty)) : dEq (.list a) (.list []) Q := by
  refine ⟨hs, rfl, ?_⟩
  cases a with
  | nil => exact h
  | cons x a => exact h
theorem dNe_list0 {a : List D} {Q : D → Prop} (hs : shp (.list a)) (h : Q (.bool (!a.isEmpty))) : dNe (.list a) (.list []) Q := by
  refine ⟨hs, rfl, ?_⟩
  cases a with
  | nil => exact h
  | cons x a => exact h
section
variable {b : Bool} {i : Int} {s : Str} {l : List D}
theorem wi_int_n : isiD "int" .none = false := rfl
theorem wi_int_b : isiD "int" (.bool b) = true := rfl
theorem wi_int_i : isiD "int" (.int i) = true := rfl
theorem wi_int_s : isiD "int" (.str s) = false := rfl
theorem wi_int_l : isiD "int" (.list l) = false := rfl
theorem wi_int_t : isiD "int" (.tuple l) = false := rfl
theorem wi_bool_n : isiD "bool" .none = false := rfl
theorem wi_bool_b : isiD "bool" (.bool b) = true := rfl
theorem wi_bool_i : isiD "bool" (.int i) = false := rfl
theorem wi_bool_s : isiD "bool" (.str s) = false := rfl
theorem wi_bool_l : isiD "bool" (.list l) = false := rfl
theorem wi_bool_t : isiD "bool" (.tuple l) = false := rfl
theorem wi_str_n : isiD "str" .none = false := rfl
theorem wi_str_b : isiD "str" (.bool b) = false := rfl
theorem wi_str_i : isiD "str" (.int i) = false := rfl
theorem wi_str_s : isiD "str" (.str s) = true := rfl
theorem wi_str_l : isiD "str" (.list l) = false := rfl
theorem wi_str_t : isiD "str" (.tuple l) = false := rfl
theorem wi_tuple_n : isiD "tuple" .none = false := rfl
theorem wi_tuple_b : isiD "tuple" (.bool b) = false := rfl
theorem wi_tuple_i : isiD "tuple" (.int i) = false := rfl
theorem wi_tuple_s : isiD "tuple" (.str s) = false := rfl
theorem wi_tuple_l : isiD "tuple" (.list l) = false := rfl
theorem wi_tuple_t : isiD "tuple" (.tuple l) = true := rfl
theorem wi_list_n : isiD "list" .none = false := rfl
theorem wi_list_b : isiD "list" (.bool b) = false := rfl
theorem wi_list_i : isiD "list" (.int i) = false := rfl
theorem wi_list_s : isiD "list" (.str s) = false := rfl
theorem wi_list_l : isiD "list" (.list l) = true := rfl
theorem wi_list_t : isiD "list" (.tuple l) = false := rfl
end
theorem dInI {neg : Bool} {i : Int} {l : List Int} {Q : D → Prop} (h : Q (.bool (if neg then !decide (i ∈ l) else decide (i ∈ l)))) : dIn neg (.int i) (.tuple (l.map PyData.int)) Q := by
  refine ⟨td_shp (i : Int) (by decide), td_shp (α := Tu Int) ⟨l⟩ (by decide), ?_⟩
  have e : (l.map PyData.int).any (fun z => PyData.eqv z (.int i)) = decide (i ∈ l) := by
    rw [List.any_map, Bool.eq_iff_iff, List.any_eq_true, decide_eq_true_iff]
    constructor
    · rintro ⟨x, hx, hc⟩
      have := (Td.inj (α := Int) x i).mp hc
      rwa [← this]
    · intro h
      exact ⟨i, h, (Td.inj (α := Int) i i).mpr rfl⟩
  show Q (.bool (if neg = true then _ else _))
  rw [e]
  exact h
theorem dInIL {neg : Bool} {i : Int} {l : List Int} {Q : D → Prop} (h : Q (.bool (if neg then !decide (i ∈ l) else decide (i ∈ l)))) : dIn neg (.int i) (.list (l.map PyData.int)) Q := by
  refine ⟨td_shp (i : Int) (by decide), td_shp (α := List Int) l (by decide), ?_⟩
  have e : (l.map PyData.int).any (fun z => PyData.eqv z (.int i)) = decide (i ∈ l) := by
    rw [List.any_map, Bool.eq_iff_iff, List.any_eq_true, decide_eq_true_iff]
    constructor
    · rintro ⟨x, hx, hc⟩
      have := (Td.inj (α := Int) x i).mp hc
      rwa [← this]
    · intro h
      exact ⟨i, h, (Td.inj (α := Int) i i).mpr rfl⟩
  show Q (.bool (if neg = true then _ else _))
  rw [e]
  exact h
theorem snoc_ind {α : Type} {M : List α → Prop} (h0 : M []) (hs : ∀ l a, M l → M (l ++ [a])) (l : List α) : M l := by
  have key : ∀ l : List α, M l.reverse := by
    intro l
    induction l with
    | nil => exact h0
    | cons x l ih => rw [List.reverse_cons]; exact hs _ _ ih
  have := key l.reverse
  rwa [List.reverse_reverse] at this
end DL

set_option Elab.async false
set_option linter.all false
set_option maxRecDepth 100000
set_option maxHeartbeats 4000000
namespace DL
open PySem PySem.Spec PyProof.Rows L2
/-! the defs as terms (printed by gen.py) -/
def d_lowest : DF := ⟨"lowest", ["a", "b", "common"], ["a", "b"],
    (.cons (.set 2 (.bi .gcd (.cons (.v 0) (.cons (.v 1) .nil))))
    (.cons (.ife (.cmp .Lt (.v 1) (.int 0)) (.cons (.set 2 (.neg (.v 2)))
    .nil) .nil)
    (.cons (.ret (.tup (.cons (.bin .FloorDiv (.v 0) (.v 2)) (.cons (.bin .FloorDiv (.v 1) (.v 2)) .nil))))
    .nil)))⟩
def d_plus : DF := ⟨"plus", ["p", "q"], ["p", "q"],
    (.cons (.ret (.call "lowest" (.cons (.bin .Add (.bin .Mult (.sub (.v 0) (.int 0)) (.sub (.v 1) (.int 1))) (.bin .Mult (.sub (.v 1) (.int 0)) (.sub (.v 0) (.int 1)))) (.cons (.bin .Mult (.sub (.v 0) (.int 1)) (.sub (.v 1) (.int 1))) .nil))))
    .nil)⟩
def d_over : DF := ⟨"over", ["p", "q"], ["p", "q"],
    (.cons (.ife (.cmp .Eq (.sub (.v 1) (.int 0)) (.int 0)) (.cons (.rais "NotAllowed")
    .nil) .nil)
    (.cons (.ret (.call "lowest" (.cons (.bin .Mult (.sub (.v 0) (.int 0)) (.sub (.v 1) (.int 1))) (.cons (.bin .Mult (.sub (.v 0) (.int 1)) (.sub (.v 1) (.int 0))) .nil))))
    .nil))⟩
def d_total_of : DF := ⟨"total_of", ["ratios", "told", "one"], ["ratios"],
    (.cons (.set 1 (.g "NOTHING"))
    (.cons (.loop (.n 2) (.seq (.v 0)) (.cons (.set 1 (.call "plus" (.cons (.v 1) (.cons (.v 2) .nil))))
    .nil))
    (.cons (.ret (.v 1))
    .nil)))⟩
def d_common : DF := ⟨"common", ["m", "blocks", "other", "found", "block", "joined", "x", "part"], ["m", "blocks", "other"],
    (.cons (.set 3 (.comp [("x", 6)] (.tup (.cons (.v 6) .nil)) (.n 6) (.rng (.cons (.v 0) .nil)) .no))
    (.cons (.loop (.n 4) (.seq (.bin .Add (.v 1) (.v 2))) (.cons (.set 5 (.bi .tuple (.cons (.bi .sorted (.cons (.comp2 [("part", 7), ("x", 6)] (.v 6) (.n 7) (.seq (.v 3)) (.so (.bi .any (.cons (.comp [("x", 6)] (.cmp .In (.v 6) (.v 4)) (.n 6) (.seq (.v 7)) .no) .nil))) (.n 6) (.seq (.v 7)) .no) .nil)) .nil)))
    (.cons (.set 3 (.bin .Add (.comp [("part", 7)] (.v 7) (.n 7) (.seq (.v 3)) (.so (.not (.bi .any (.cons (.comp [("x", 6)] (.cmp .In (.v 6) (.v 4)) (.n 6) (.seq (.v 7)) .no) .nil))))) (.lst (.cons (.v 5) .nil))))
    .nil)))
    (.cons (.ret (.bi .tuple (.cons (.bi .sorted (.cons (.v 3) .nil)) .nil)))
    .nil)))⟩
def d_block_of : DF := ⟨"block_of", ["x", "blocks", "block"], ["x", "blocks"],
    (.cons (.ret (.sub (.comp [("block", 2)] (.v 2) (.n 2) (.seq (.v 1)) (.so (.cmp .In (.v 0) (.v 2)))) (.int 0)))
    .nil)⟩
def d_opinion_in : DF := ⟨"opinion_in", ["prior", "block", "event", "x"], ["prior", "block", "event"],
    (.cons (.ret (.call "over" (.cons (.call "total_of" (.cons (.comp [("x", 3)] (.sub (.v 0) (.v 3)) (.n 3) (.seq (.v 1)) (.so (.cmp .Eq (.sub (.v 2) (.v 3)) (.int 1)))) .nil)) (.cons (.call "total_of" (.cons (.comp [("x", 3)] (.sub (.v 0) (.v 3)) (.n 3) (.seq (.v 1)) .no) .nil)) .nil))))
    .nil)⟩
def d_opinion : DF := ⟨"opinion", ["prior", "blocks", "event", "x"], ["prior", "blocks", "event", "x"],
    (.cons (.ret (.call "opinion_in" (.cons (.v 0) (.cons (.call "block_of" (.cons (.v 3) (.cons (.v 1) .nil))) (.cons (.v 2) .nil)))))
    .nil)⟩
def d_opinions : DF := ⟨"opinions", ["prior", "blocks", "event", "x"], ["prior", "blocks", "event"],
    (.cons (.ret (.bi .tuple (.cons (.comp [("x", 3)] (.call "opinion" (.cons (.v 0) (.cons (.v 1) (.cons (.v 2) (.cons (.v 3) .nil))))) (.n 3) (.rng (.cons (.bi .len (.cons (.v 0) .nil)) .nil)) .no) .nil)))
    .nil)⟩
def d_knows : DF := ⟨"knows", ["blocks", "event", "many", "block", "x", "z"], ["blocks", "event"],
    (.cons (.set 2 (.bi .sum (.cons (.comp [("block", 3)] (.bi .len (.cons (.v 3) .nil)) (.n 3) (.seq (.v 0)) .no) .nil)))
    (.cons (.ret (.bi .tuple (.cons (.comp [("x", 4)] (.bi .int (.cons (.bi .all (.cons (.comp [("z", 5)] (.cmp .Eq (.sub (.v 1) (.v 5)) (.int 1)) (.n 5) (.seq (.call "block_of" (.cons (.v 4) (.cons (.v 0) .nil)))) .no) .nil)) .nil)) (.n 4) (.rng (.cons (.v 2) .nil)) .no) .nil)))
    .nil))⟩
def d_commonly_known : DF := ⟨"commonly_known", ["blocks", "other", "event", "many", "block"], ["blocks", "other", "event"],
    (.cons (.set 3 (.bi .sum (.cons (.comp [("block", 4)] (.bi .len (.cons (.v 4) .nil)) (.n 4) (.seq (.v 0)) .no) .nil)))
    (.cons (.ret (.call "knows" (.cons (.call "common" (.cons (.v 3) (.cons (.v 0) (.cons (.v 1) .nil)))) (.cons (.v 2) .nil))))
    .nil))⟩
def d_parted_by : DF := ⟨"parted_by", ["blocks", "told", "found", "block", "x", "key"], ["blocks", "told"],
    (.cons (.dnew 2)
    (.cons (.loop (.n 3) (.seq (.v 0)) (.cons (.loop (.n 4) (.seq (.v 3)) (.cons (.set 5 (.tup (.cons (.v 3) (.cons (.sub (.v 1) (.v 4)) .nil))))
    (.cons (.dput 2 (.v 5) (.bin .Add (.dget 2 (.v 5) (.tup .nil)) (.tup (.cons (.v 4) .nil))))
    .nil)))
    .nil))
    (.cons (.ret (.bi .tuple (.cons (.dsort false 2) .nil)))
    .nil)))⟩
def d_talk : DF := ⟨"talk", ["prior", "blocks", "other", "event", "found", "one", "two", "first", "second", "fresh"], ["prior", "blocks", "other", "event"],
    (.cons (.own 4 (.lst (.cons (.tup (.cons (.v 1) (.cons (.v 2) .nil))) .nil)))
    (.cons (.whl (.bl true) (.cons (.unp (.cons (.n 5) (.cons (.n 6) .nil)) (.sub (.b 4) (.neg (.int 1))))
    (.cons (.unp (.cons (.n 7) (.cons (.n 8) .nil)) (.tup (.cons (.call "opinions" (.cons (.v 0) (.cons (.v 5) (.cons (.v 3) .nil)))) (.cons (.call "opinions" (.cons (.v 0) (.cons (.v 6) (.cons (.v 3) .nil)))) .nil))))
    (.cons (.set 9 (.tup (.cons (.call "parted_by" (.cons (.v 5) (.cons (.v 8) .nil))) (.cons (.call "parted_by" (.cons (.v 6) (.cons (.v 7) .nil))) .nil))))
    (.cons (.ife (.cmp .Eq (.v 9) (.sub (.b 4) (.neg (.int 1)))) (.cons (.ret (.b 4))
    .nil) .nil)
    (.cons (.app 4 (.v 9))
    .nil))))))
    .nil))⟩
def d_agreed : DF := ⟨"agreed", ["prior", "blocks", "other", "event"], ["prior", "blocks", "other", "event"],
    (.cons (.ret (.call "opinions" (.cons (.v 0) (.cons (.sub (.sub (.call "talk" (.cons (.v 0) (.cons (.v 1) (.cons (.v 2) (.cons (.v 3) .nil))))) (.neg (.int 1))) (.int 0)) (.cons (.v 3) .nil)))))
    .nil)⟩
def d__law_lowest : DF := ⟨"_law_lowest", ["a", "b", "c", "d"], ["a", "b"],
    (.cons (.unp (.cons (.n 2) (.cons (.n 3) .nil)) (.tup (.cons (.bi .abs (.cons (.v 0) .nil)) (.cons (.v 1) .nil))))
    (.cons (.whl (.cmp .Gt (.v 3) (.int 0)) (.cons (.unp (.cons (.n 2) (.cons (.n 3) .nil)) (.tup (.cons (.v 3) (.cons (.bin .Sub (.v 2) (.bin .Mult (.v 3) (.bin .FloorDiv (.v 2) (.v 3)))) .nil))))
    .nil))
    (.cons (.ret (.tup (.cons (.bin .FloorDiv (.v 0) (.v 2)) (.cons (.bin .FloorDiv (.v 1) (.v 2)) .nil))))
    .nil)))⟩
def d__law_plus : DF := ⟨"_law_plus", ["p", "q"], ["p", "q"],
    (.cons (.ret (.call "_law_lowest" (.cons (.bin .Add (.bin .Mult (.sub (.v 0) (.int 0)) (.sub (.v 1) (.int 1))) (.bin .Mult (.sub (.v 1) (.int 0)) (.sub (.v 0) (.int 1)))) (.cons (.bin .Mult (.sub (.v 0) (.int 1)) (.sub (.v 1) (.int 1))) .nil))))
    .nil)⟩
def d__law_times : DF := ⟨"_law_times", ["p", "q"], ["p", "q"],
    (.cons (.ret (.call "_law_lowest" (.cons (.bin .Mult (.sub (.v 0) (.int 0)) (.sub (.v 1) (.int 0))) (.cons (.bin .Mult (.sub (.v 0) (.int 1)) (.sub (.v 1) (.int 1))) .nil))))
    .nil)⟩
def d__law_less : DF := ⟨"_law_less", ["p", "q"], ["p", "q"],
    (.cons (.ret (.cmp .Lt (.bin .Mult (.sub (.v 0) (.int 0)) (.sub (.v 1) (.int 1))) (.bin .Mult (.sub (.v 1) (.int 0)) (.sub (.v 0) (.int 1)))))
    .nil)⟩
def d__law_total : DF := ⟨"_law_total", ["ratios", "told", "p"], ["ratios"],
    (.cons (.set 1 (.tup (.cons (.int 0) (.cons (.int 1) .nil))))
    (.cons (.loop (.n 2) (.seq (.v 0)) (.cons (.set 1 (.call "_law_plus" (.cons (.v 1) (.cons (.v 2) .nil))))
    .nil))
    (.cons (.ret (.v 1))
    .nil)))⟩
def d__law_row : DF := ⟨"_law_row", ["draw", "many", "row", "k", "one"], ["draw", "many"],
    (.cons (.own 2 (.comp [("k", 3)] (.sub (.lst (.cons (.int 0) (.cons (.int 1) (.cons (.int 1) (.cons (.int 2) (.cons (.int 3) .nil)))))) (.call "_law_take" (.dr 0 (.cons (.int 5) .nil)))) (.n 3) (.rng (.cons (.v 1) .nil)) .no))
    (.cons (.augp 2 (.call "_law_take" (.dr 0 (.cons (.v 1) .nil))) .Add (.int 1))
    (.cons (.frz 2)
    (.cons (.ret (.bi .tuple (.cons (.comp [("one", 4)] (.call "_law_lowest" (.cons (.v 4) (.cons (.bi .sum (.cons (.b 2) .nil)) .nil))) (.n 4) (.seq (.v 2)) .no) .nil)))
    .nil))))⟩
def d__law_channel : DF := ⟨"_law_channel", ["draw", "m", "n", "rows", "x"], ["draw", "m", "n"],
    (.cons (.own 3 (.comp [("x", 4)] (.call "_law_row" (.dr 0 (.cons (.v 2) .nil))) (.n 4) (.rng (.cons (.v 1) .nil)) .no))
    (.cons (.ife (.and (.cmp .Gt (.v 1) (.int 1)) (.cmp .Eq (.call "_law_take" (.dr 0 (.cons (.int 4) .nil))) (.int 0))) (.cons (.put 3 (.call "_law_take" (.dr 0 (.cons (.v 1) .nil))) (.sub (.b 3) (.call "_law_take" (.dr 0 (.cons (.v 1) .nil)))))
    .nil) .nil)
    (.cons (.ret (.bi .tuple (.cons (.b 3) .nil)))
    .nil)))⟩
def d__law_gains : DF := ⟨"_law_gains", ["draw", "m", "most", "w", "x"], ["draw", "m", "most"],
    (.cons (.ret (.bi .tuple (.cons (.comp [("w", 3)] (.bi .tuple (.cons (.comp [("x", 4)] (.sub (.lst (.cons (.int 0) (.cons (.int 1) (.cons (.int 2) (.cons (.int 5) (.cons (.neg (.int 3)) .nil)))))) (.call "_law_take" (.dr 0 (.cons (.int 5) .nil)))) (.n 4) (.rng (.cons (.v 1) .nil)) .no) .nil)) (.n 3) (.rng (.cons (.bin .Add (.int 1) (.call "_law_take" (.dr 0 (.cons (.v 2) .nil)))) .nil)) .no) .nil)))
    .nil)⟩
def d__law_worth : DF := ⟨"_law_worth", ["prior", "channel", "gains", "told", "y", "best", "row", "one", "x"], ["prior", "channel", "gains"],
    (.cons (.set 3 (.tup (.cons (.int 0) (.cons (.int 1) .nil))))
    (.cons (.loop (.n 4) (.rng (.cons (.bi .len (.cons (.sub (.v 1) (.int 0)) .nil)) .nil)) (.cons (.set 5 .non)
    (.cons (.loop (.n 6) (.seq (.v 2)) (.cons (.set 7 (.tup (.cons (.int 0) (.cons (.int 1) .nil))))
    (.cons (.loop (.n 8) (.rng (.cons (.bi .len (.cons (.v 0) .nil)) .nil)) (.cons (.set 7 (.call "_law_plus" (.cons (.v 7) (.cons (.call "_law_times" (.cons (.call "_law_times" (.cons (.sub (.v 0) (.v 8)) (.cons (.sub (.sub (.v 1) (.v 8)) (.v 4)) .nil))) (.cons (.tup (.cons (.sub (.v 6) (.v 8)) (.cons (.int 1) .nil))) .nil))) .nil))))
    .nil))
    (.cons (.ife (.or (.cmp .Is (.v 5) .non) (.call "_law_less" (.cons (.v 5) (.cons (.v 7) .nil)))) (.cons (.set 5 (.v 7))
    .nil) .nil)
    .nil))))
    (.cons (.set 3 (.call "_law_plus" (.cons (.v 3) (.cons (.v 5) .nil))))
    .nil))))
    (.cons (.ret (.v 3))
    .nil)))⟩
def d__law_blocks : DF := ⟨"_law_blocks", ["draw", "m", "numbers", "x", "k"], ["draw", "m"],
    (.cons (.set 2 (.comp [("x", 3)] (.call "_law_take" (.dr 0 (.cons (.v 1) .nil))) (.n 3) (.rng (.cons (.v 1) .nil)) .no))
    (.cons (.ret (.bi .tuple (.cons (.bi .sorted (.cons (.comp [("k", 4)] (.bi .tuple (.cons (.comp [("x", 3)] (.v 3) (.n 3) (.rng (.cons (.v 1) .nil)) (.so (.cmp .Eq (.sub (.v 2) (.v 3)) (.v 4)))) .nil)) (.n 4) (.rng (.cons (.v 1) .nil)) (.so (.cmp .In (.v 4) (.v 2)))) .nil)) .nil)))
    .nil))⟩
def d__law_of : DF := ⟨"_law_of", ["blocks", "x", "block"], ["blocks", "x"],
    (.cons (.ret (.sub (.comp [("block", 2)] (.v 2) (.n 2) (.seq (.v 0)) (.so (.cmp .In (.v 1) (.v 2)))) (.int 0)))
    .nil)⟩
def d__law_opinions : DF := ⟨"_law_opinions", ["prior", "blocks", "event", "found", "x", "block", "one", "two", "z"], ["prior", "blocks", "event"],
    (.cons (.own 3 (.lst .nil))
    (.cons (.loop (.n 4) (.rng (.cons (.bi .len (.cons (.v 0) .nil)) .nil)) (.cons (.set 5 (.call "_law_of" (.cons (.v 1) (.cons (.v 4) .nil))))
    (.cons (.unp (.cons (.n 6) (.cons (.n 7) .nil)) (.tup (.cons (.call "_law_total" (.cons (.comp [("z", 8)] (.sub (.v 0) (.v 8)) (.n 8) (.seq (.v 5)) (.so (.cmp .Eq (.sub (.v 2) (.v 8)) (.int 1)))) .nil)) (.cons (.call "_law_total" (.cons (.comp [("z", 8)] (.sub (.v 0) (.v 8)) (.n 8) (.seq (.v 5)) .no) .nil)) .nil))))
    (.cons (.app 3 (.call "_law_lowest" (.cons (.bin .Mult (.sub (.v 6) (.int 0)) (.sub (.v 7) (.int 1))) (.cons (.bin .Mult (.sub (.v 6) (.int 1)) (.sub (.v 7) (.int 0))) .nil))))
    .nil))))
    (.cons (.ret (.bi .tuple (.cons (.b 3) .nil)))
    .nil)))⟩
def d__law_reach : DF := ⟨"_law_reach", ["blocks", "other", "x", "found", "turn", "block", "z"], ["blocks", "other", "x"],
    (.cons (.set 3 (.lst (.cons (.v 2) .nil)))
    (.cons (.loop (.n 4) (.rng (.cons (.bin .Add (.bin .Add (.bi .len (.cons (.v 0) .nil)) (.bi .len (.cons (.v 1) .nil))) (.int 1)) .nil)) (.cons (.loop (.n 5) (.seq (.bin .Add (.v 0) (.v 1))) (.cons (.ife (.cmp .NotEq (.comp [("z", 6)] (.v 6) (.n 6) (.seq (.v 5)) (.so (.cmp .In (.v 6) (.v 3)))) (.lst .nil)) (.cons (.set 3 (.bin .Add (.v 3) (.comp [("z", 6)] (.v 6) (.n 6) (.seq (.v 5)) (.so (.cmp .NotIn (.v 6) (.v 3))))))
    .nil) .nil)
    .nil))
    .nil))
    (.cons (.ret (.v 3))
    .nil)))⟩
def d__law_parted : DF := ⟨"_law_parted", ["blocks", "told", "found", "block", "values", "x", "value"], ["blocks", "told"],
    (.cons (.set 2 (.lst .nil))
    (.cons (.loop (.n 3) (.seq (.v 0)) (.cons (.own 4 (.lst .nil))
    (.cons (.loop (.n 5) (.seq (.v 3)) (.cons (.ife (.cmp .NotIn (.sub (.v 1) (.v 5)) (.b 4)) (.cons (.app 4 (.sub (.v 1) (.v 5)))
    .nil) .nil)
    .nil))
    (.cons (.frz 4)
    (.cons (.set 2 (.bin .Add (.v 2) (.comp [("value", 6)] (.bi .tuple (.cons (.comp [("x", 5)] (.v 5) (.n 5) (.seq (.v 3)) (.so (.cmp .Eq (.sub (.v 1) (.v 5)) (.v 6)))) .nil)) (.n 6) (.seq (.v 4)) .no)))
    .nil)))))
    (.cons (.ret (.bi .tuple (.cons (.bi .sorted (.cons (.v 2) .nil)) .nil)))
    .nil)))⟩
def d_law : DF := ⟨"law", ["script", "draw", "turn", "m", "parts", "prior", "one", "two", "event", "first", "second", "due", "x", "same", "like", "rows", "k", "a", "b", "fresh", "told", "last", "z"], ["script"],
    (.cons (.loop (.n 2) (.rng (.cons (.int 3) .nil)) (.cons (.set 3 (.bin .Add (.int 1) (.call "_law_take" (.dr 1 (.cons (.int 5) .nil)))))
    (.cons (.set 4 (.comp [("x", 12)] (.bin .Add (.int 1) (.call "_law_take" (.dr 1 (.cons (.int 4) .nil)))) (.n 12) (.rng (.cons (.v 3) .nil)) .no))
    (.cons (.set 5 (.bi .tuple (.cons (.comp [("one", 6)] (.call "_law_lowest" (.cons (.v 6) (.cons (.bi .sum (.cons (.v 4) .nil)) .nil))) (.n 6) (.seq (.v 4)) .no) .nil)))
    (.cons (.unp (.cons (.n 6) (.cons (.n 7) .nil)) (.tup (.cons (.call "_law_blocks" (.dr 1 (.cons (.v 3) .nil))) (.cons (.call "_law_blocks" (.dr 1 (.cons (.v 3) .nil))) .nil))))
    (.cons (.set 8 (.bi .tuple (.cons (.comp [("x", 12)] (.call "_law_take" (.dr 1 (.cons (.int 2) .nil))) (.n 12) (.rng (.cons (.v 3) .nil)) .no) .nil)))
    (.cons (.unp (.cons (.n 9) (.cons (.n 10) .nil)) (.tup (.cons (.call "_law_opinions" (.cons (.v 5) (.cons (.v 6) (.cons (.v 8) .nil)))) (.cons (.call "_law_opinions" (.cons (.v 5) (.cons (.v 7) (.cons (.v 8) .nil)))) .nil))))
    (.cons (.ife (.or (.cmp .NotEq (.call "opinions" (.cons (.v 5) (.cons (.v 6) (.cons (.v 8) .nil)))) (.v 9)) (.cmp .NotEq (.comp [("x", 12)] (.v 12) (.n 12) (.rng (.cons (.v 3) .nil)) (.so (.cmp .NotEq (.call "opinion" (.cons (.v 5) (.cons (.v 7) (.cons (.v 8) (.cons (.v 12) .nil))))) (.sub (.v 10) (.v 12))))) (.lst .nil))) (.cons (.ret (.bl false))
    .nil) .nil)
    (.cons (.ife (.cmp .NotEq (.call "knows" (.cons (.v 6) (.cons (.v 8) .nil))) (.bi .tuple (.cons (.comp [("x", 12)] (.ite (.cmp .Eq (.comp [("z", 22)] (.v 22) (.n 22) (.seq (.call "_law_of" (.cons (.v 6) (.cons (.v 12) .nil)))) (.so (.cmp .Eq (.sub (.v 8) (.v 22)) (.int 0)))) (.lst .nil)) (.int 1) (.int 0)) (.n 12) (.rng (.cons (.v 3) .nil)) .no) .nil))) (.cons (.ret (.bl false))
    .nil) .nil)
    (.cons (.set 11 (.bi .tuple (.cons (.comp [("x", 12)] (.ite (.cmp .Eq (.comp [("z", 22)] (.v 22) (.n 22) (.seq (.call "_law_reach" (.cons (.v 6) (.cons (.v 7) (.cons (.v 12) .nil))))) (.so (.cmp .Eq (.sub (.v 8) (.v 22)) (.int 0)))) (.lst .nil)) (.int 1) (.int 0)) (.n 12) (.rng (.cons (.v 3) .nil)) .no) .nil)))
    (.cons (.ife (.or (.cmp .NotEq (.call "commonly_known" (.cons (.v 6) (.cons (.v 7) (.cons (.v 8) .nil)))) (.v 11)) (.cmp .NotEq (.comp [("x", 12)] (.v 12) (.n 12) (.rng (.cons (.v 3) .nil)) (.so (.cmp .Gt (.sub (.v 11) (.v 12)) (.bi .min (.cons (.sub (.call "knows" (.cons (.v 6) (.cons (.v 8) .nil))) (.v 12)) (.cons (.sub (.call "knows" (.cons (.v 7) (.cons (.v 8) .nil))) (.v 12)) .nil)))))) (.lst .nil))) (.cons (.ret (.bl false))
    .nil) .nil)
    (.cons (.loop (.n 12) (.rng (.cons (.v 3) .nil)) (.cons (.set 13 (.bi .tuple (.cons (.comp [("z", 22)] (.ite (.cmp .Eq (.sub (.v 9) (.v 22)) (.sub (.v 9) (.v 12))) (.int 1) (.int 0)) (.n 22) (.rng (.cons (.v 3) .nil)) .no) .nil)))
    (.cons (.set 14 (.bi .tuple (.cons (.comp [("z", 22)] (.ite (.cmp .Eq (.sub (.v 10) (.v 22)) (.sub (.v 10) (.v 12))) (.int 1) (.int 0)) (.n 22) (.rng (.cons (.v 3) .nil)) .no) .nil)))
    (.cons (.ife (.and (.cmp .Eq (.sub (.call "commonly_known" (.cons (.v 6) (.cons (.v 7) (.cons (.v 13) .nil)))) (.v 12)) (.int 1)) (.and (.cmp .Eq (.sub (.call "commonly_known" (.cons (.v 6) (.cons (.v 7) (.cons (.v 14) .nil)))) (.v 12)) (.int 1)) (.cmp .NotEq (.sub (.v 9) (.v 12)) (.sub (.v 10) (.v 12))))) (.cons (.ret (.bl false))
    .nil) .nil)
    .nil))))
    (.cons (.own 15 (.lst (.cons (.tup (.cons (.v 6) (.cons (.v 7) .nil))) .nil)))
    (.cons (.loop (.n 16) (.rng (.cons (.bin .Add (.bin .Mult (.int 2) (.v 3)) (.int 1)) .nil)) (.cons (.unp (.cons (.n 17) (.cons (.n 18) .nil)) (.sub (.b 15) (.neg (.int 1))))
    (.cons (.set 19 (.tup (.cons (.call "_law_parted" (.cons (.v 17) (.cons (.call "_law_opinions" (.cons (.v 5) (.cons (.v 18) (.cons (.v 8) .nil)))) .nil))) (.cons (.call "_law_parted" (.cons (.v 18) (.cons (.call "_law_opinions" (.cons (.v 5) (.cons (.v 17) (.cons (.v 8) .nil)))) .nil))) .nil))))
    (.cons (.ife (.cmp .NotEq (.v 19) (.sub (.b 15) (.neg (.int 1)))) (.cons (.app 15 (.v 19))
    .nil) .nil)
    .nil))))
    (.cons (.set 20 (.call "talk" (.cons (.v 5) (.cons (.v 6) (.cons (.v 7) (.cons (.v 8) .nil))))))
    (.cons (.ife (.or (.cmp .NotEq (.v 20) (.b 15)) (.not (.isi (.v 20) "list"))) (.cons (.ret (.bl false))
    .nil) .nil)
    (.cons (.set 21 (.call "_law_opinions" (.cons (.v 5) (.cons (.sub (.sub (.b 15) (.neg (.int 1))) (.int 0)) (.cons (.v 8) .nil)))))
    (.cons (.ife (.or (.cmp .NotEq (.v 21) (.call "_law_opinions" (.cons (.v 5) (.cons (.sub (.sub (.b 15) (.neg (.int 1))) (.int 1)) (.cons (.v 8) .nil))))) (.cmp .NotEq (.call "agreed" (.cons (.v 5) (.cons (.v 6) (.cons (.v 7) (.cons (.v 8) .nil))))) (.v 21))) (.cons (.ret (.bl false))
    .nil) .nil)
    .nil))))))))))))))))))
    (.cons (.ret (.bl true))
    .nil))⟩
end DL

set_option Elab.async false
set_option linter.all false
set_option maxRecDepth 100000
set_option maxHeartbeats 4000000
namespace DL
open PySem PySem.Spec PyProof.Rows L2
/-! the promises of defs that several laws have -/
theorem imp_lowest {Γ : Gam} (as : List Sl) (P : D → Prop) (PE : Str → Prop) (h : φ_lowest as P PE) : spW Γ d_lowest as P PE := by
  obtain ⟨a, b, n, rfl, hb, bd, hn, hP⟩ := h
  refine ⟨rfl, ?_⟩
  have g0 : 0 < a.natAbs.gcd b.natAbs := Nat.gcd_pos_of_pos_right _ (by omega)
  have gl : a.natAbs.gcd b.natAbs ≤ b.natAbs := Nat.le_of_dvd (by omega) (Nat.gcd_dvd_right _ _)
  have e := lowest_eq (a := a) hb
  simp only [d_lowest, true_and, wpSs, wpS, wpE, wpX, wpO, wpC, wpI, ent, kt0, bindT, bindTs, tgsLen, wipeR, constD, owL, List.map_cons, List.map_nil, List.length_cons, List.length_nil, List.replicate, List.cons_append, List.nil_append, Nat.reduceSub, Nat.reduceAdd, List.getElem?_cons_zero, List.getElem?_cons_succ, List.getElem?_nil, List.set_cons_zero, List.set_cons_succ, opF, cmpF, Bi.fd, Option.map_some, if_true, if_false, Bool.true_eq_false, Bool.false_eq_true, reduceIte, Bool.not_true, Bool.not_false, w_some, w_none, w_fz0, w_fz1, w_t0, w_t1, w_t2, w_t3, w_t4, w_add, w_addL, w_addT, w_sub, w_subB, w_mul, w_mulL, w_mulT, w_mod, w_div, w_lt, w_le, w_gt, w_ge, w_is, w_isnt, w_n0, w_n1, w_n2, w_n3, w_n4, w_neg, w_atL, w_atT, w_lenL, w_lenT, w_tupL, w_tupT, w_lisL, w_lisT, w_abs, w_int, w_intB, w_gcd, w_min, w_max, w_seqL, w_seqT, w_augA, w_augS, w_augM, w_intQ, w_lstQ, w_rng1, w_rng2, w_zipL, w_zipT, w_zipM, w_zipN, w_enum, w_enumT]
  have bg : Bd n ((a.natAbs.gcd b.natAbs : Nat) : Int) := bd.le (by simpa using gl)
  have ok1 : dDivOk ((a.natAbs.gcd b.natAbs : Nat) : Int) := bg.divOk hn (by omega)
  have ok2 : dDivOk (-((a.natAbs.gcd b.natAbs : Nat) : Int)) := bg.neg.divOk hn (by omega)
  by_cases hlt : b < 0
  · rw [if_pos hlt] at e
    rw [decide_eq_true hlt]
    simp only [true_and, wpSs, wpS, wpE, wpX, wpO, wpC, wpI, ent, kt0, bindT, bindTs, tgsLen, wipeR, constD, owL, List.map_cons, List.map_nil, List.length_cons, List.length_nil, List.replicate, List.cons_append, List.nil_append, Nat.reduceSub, Nat.reduceAdd, List.getElem?_cons_zero, List.getElem?_cons_succ, List.getElem?_nil, List.set_cons_zero, List.set_cons_succ, opF, cmpF, Bi.fd, Option.map_some, if_true, if_false, Bool.true_eq_false, Bool.false_eq_true, reduceIte, Bool.not_true, Bool.not_false, w_some, w_none, w_fz0, w_fz1, w_t0, w_t1, w_t2, w_t3, w_t4, w_add, w_addL, w_addT, w_sub, w_subB, w_mul, w_mulL, w_mulT, w_mod, w_div, w_lt, w_le, w_gt, w_ge, w_is, w_isnt, w_n0, w_n1, w_n2, w_n3, w_n4, w_neg, w_atL, w_atT, w_lenL, w_lenT, w_tupL, w_tupT, w_lisL, w_lisT, w_abs, w_int, w_intB, w_gcd, w_min, w_max, w_seqL, w_seqT, w_augA, w_augS, w_augM, w_intQ, w_lstQ, w_rng1, w_rng2, w_zipL, w_zipT, w_zipM, w_zipN, w_enum, w_enumT]
    exact ⟨ok2, ok2, by rw [e]; exact hP⟩
  · rw [if_neg hlt] at e
    rw [decide_eq_false hlt]
    simp only [true_and, wpSs, wpS, wpE, wpX, wpO, wpC, wpI, ent, kt0, bindT, bindTs, tgsLen, wipeR, constD, owL, List.map_cons, List.map_nil, List.length_cons, List.length_nil, List.replicate, List.cons_append, List.nil_append, Nat.reduceSub, Nat.reduceAdd, List.getElem?_cons_zero, List.getElem?_cons_succ, List.getElem?_nil, List.set_cons_zero, List.set_cons_succ, opF, cmpF, Bi.fd, Option.map_some, if_true, if_false, Bool.true_eq_false, Bool.false_eq_true, reduceIte, Bool.not_true, Bool.not_false, w_some, w_none, w_fz0, w_fz1, w_t0, w_t1, w_t2, w_t3, w_t4, w_add, w_addL, w_addT, w_sub, w_subB, w_mul, w_mulL, w_mulT, w_mod, w_div, w_lt, w_le, w_gt, w_ge, w_is, w_isnt, w_n0, w_n1, w_n2, w_n3, w_n4, w_neg, w_atL, w_atT, w_lenL, w_lenT, w_tupL, w_tupT, w_lisL, w_lisT, w_abs, w_int, w_intB, w_gcd, w_min, w_max, w_seqL, w_seqT, w_augA, w_augS, w_augM, w_intQ, w_lstQ, w_rng1, w_rng2, w_zipL, w_zipT, w_zipM, w_zipN, w_enum, w_enumT]
    exact ⟨ok1, ok1, by rw [e]; exact hP⟩

theorem imp_plus {Γ : Gam} (e : Γ.Φ "lowest" = φ_lowest) (as : List Sl) (P : D → Prop) (PE : Str → Prop) (h : φ_plus as P PE) : spW Γ d_plus as P PE := by
  obtain ⟨p, q, m, n, rfl, hp, hq, hl, hP⟩ := h
  refine ⟨rfl, ?_⟩
  simp only [d_plus, qD, true_and, wpSs, wpS, wpE, wpX, wpO, wpC, wpI, ent, kt0, bindT, bindTs, tgsLen, wipeR, constD, owL, List.map_cons, List.map_nil, List.length_cons, List.length_nil, List.replicate, List.cons_append, List.nil_append, Nat.reduceSub, Nat.reduceAdd, List.getElem?_cons_zero, List.getElem?_cons_succ, List.getElem?_nil, List.set_cons_zero, List.set_cons_succ, opF, cmpF, Bi.fd, Option.map_some, if_true, if_false, Bool.true_eq_false, Bool.false_eq_true, reduceIte, Bool.not_true, Bool.not_false, w_some, w_none, w_fz0, w_fz1, w_t0, w_t1, w_t2, w_t3, w_t4, w_add, w_addL, w_addT, w_sub, w_subB, w_mul, w_mulL, w_mulT, w_mod, w_div, w_lt, w_le, w_gt, w_ge, w_is, w_isnt, w_n0, w_n1, w_n2, w_n3, w_n4, w_neg, w_atL, w_atT, w_lenL, w_lenT, w_tupL, w_tupT, w_lisL, w_lisT, w_abs, w_int, w_intB, w_gcd, w_min, w_max, w_seqL, w_seqT, w_augA, w_augS, w_augM, w_intQ, w_lstQ, w_rng1, w_rng2, w_zipL, w_zipT, w_zipM, w_zipN, w_enum, w_enumT, atI0, atI1]
  have k1 := hp.num.mulOk hq.den (by omega)
  have k2 := hq.num.mulOk hp.den (by omega)
  have k3 := hp.den.mulOk hq.den (by omega)
  refine ⟨k1, k2, k3, ?_⟩
  rw [e]
  exact ⟨_, _, _, rfl, mul_ne (den_ne _) (den_ne _), hp.den.mul hq.den, by omega, by rw [← add_eq]; exact hP⟩

theorem imp_total_of {Γ : Gam} (e : Γ.Φ "plus" = φ_plus) (e0 : Γ.gl.lookup ("NOTHING" : Str) = some (qD 0)) (as : List Sl) (P : D → Prop) (PE : Str → Prop) (h : φ_total_of as P PE) : spW Γ d_total_of as P PE := by
  obtain ⟨b, l, m, rfl, hs, hm, hP⟩ := h
  refine ⟨rfl, ?_⟩
  simp only [d_total_of, true_and, wpSs, wpS, wpE, wpX, wpO, wpC, wpI, ent, kt0, bindT, bindTs, tgsLen, wipeR, constD, owL, List.map_cons, List.map_nil, List.length_cons, List.length_nil, List.replicate, List.cons_append, List.nil_append, Nat.reduceSub, Nat.reduceAdd, List.getElem?_cons_zero, List.getElem?_cons_succ, List.getElem?_nil, List.set_cons_zero, List.set_cons_succ, opF, cmpF, Bi.fd, Option.map_some, if_true, if_false, Bool.true_eq_false, Bool.false_eq_true, reduceIte, Bool.not_true, Bool.not_false, w_some, w_none, w_fz0, w_fz1, w_t0, w_t1, w_t2, w_t3, w_t4, w_add, w_addL, w_addT, w_sub, w_subB, w_mul, w_mulL, w_mulT, w_mod, w_div, w_lt, w_le, w_gt, w_ge, w_is, w_isnt, w_n0, w_n1, w_n2, w_n3, w_n4, w_neg, w_atL, w_atT, w_lenL, w_lenT, w_tupL, w_tupT, w_lisL, w_lisT, w_abs, w_int, w_intB, w_gcd, w_min, w_max, w_seqL, w_seqT, w_augA, w_augS, w_augM, w_intQ, w_lstQ, w_rng1, w_rng2, w_zipL, w_zipT, w_zipM, w_zipN, w_enum, w_enumT]
  rw [e0]
  simp only [true_and, wpSs, wpS, wpE, wpX, wpO, wpC, wpI, ent, kt0, bindT, bindTs, tgsLen, wipeR, constD, owL, List.map_cons, List.map_nil, List.length_cons, List.length_nil, List.replicate, List.cons_append, List.nil_append, Nat.reduceSub, Nat.reduceAdd, List.getElem?_cons_zero, List.getElem?_cons_succ, List.getElem?_nil, List.set_cons_zero, List.set_cons_succ, opF, cmpF, Bi.fd, Option.map_some, if_true, if_false, Bool.true_eq_false, Bool.false_eq_true, reduceIte, Bool.not_true, Bool.not_false, w_some, w_none, w_fz0, w_fz1, w_t0, w_t1, w_t2, w_t3, w_t4, w_add, w_addL, w_addT, w_sub, w_subB, w_mul, w_mulL, w_mulT, w_mod, w_div, w_lt, w_le, w_gt, w_ge, w_is, w_isnt, w_n0, w_n1, w_n2, w_n3, w_n4, w_neg, w_atL, w_atT, w_lenL, w_lenT, w_tupL, w_tupT, w_lisL, w_lisT, w_abs, w_int, w_intB, w_gcd, w_min, w_max, w_seqL, w_seqT, w_augA, w_augS, w_augM, w_intQ, w_lstQ, w_rng1, w_rng2, w_zipL, w_zipT, w_zipM, w_zipN, w_enum, w_enumT]
  refine seqOf_seqD (forW_inv (I := fun done ρ => ∃ y, ρ = [some (.fz (seqD b (l.map qD))), some (.fz (qD (qsum done))), y]) ⟨none, rfl⟩ (fun done x rest ρ kk el hI hk => ?_) (fun ρ hI => ?_))
  · obtain ⟨y, rfl⟩ := hI
    have h1 := hs.su done (x :: rest) el
    have h2 := hs.it x (by rw [el]; simp)
    simp only [true_and, wpSs, wpS, wpE, wpX, wpO, wpC, wpI, ent, kt0, bindT, bindTs, tgsLen, wipeR, constD, owL, List.map_cons, List.map_nil, List.length_cons, List.length_nil, List.replicate, List.cons_append, List.nil_append, Nat.reduceSub, Nat.reduceAdd, List.getElem?_cons_zero, List.getElem?_cons_succ, List.getElem?_nil, List.set_cons_zero, List.set_cons_succ, opF, cmpF, Bi.fd, Option.map_some, if_true, if_false, Bool.true_eq_false, Bool.false_eq_true, reduceIte, Bool.not_true, Bool.not_false, w_some, w_none, w_fz0, w_fz1, w_t0, w_t1, w_t2, w_t3, w_t4, w_add, w_addL, w_addT, w_sub, w_subB, w_mul, w_mulL, w_mulT, w_mod, w_div, w_lt, w_le, w_gt, w_ge, w_is, w_isnt, w_n0, w_n1, w_n2, w_n3, w_n4, w_neg, w_atL, w_atT, w_lenL, w_lenT, w_tupL, w_tupT, w_lisL, w_lisT, w_abs, w_int, w_intB, w_gcd, w_min, w_max, w_seqL, w_seqT, w_augA, w_augS, w_augM, w_intQ, w_lstQ, w_rng1, w_rng2, w_zipL, w_zipT, w_zipM, w_zipN, w_enum, w_enumT]
    rw [e]
    refine ⟨_, _, _, _, rfl, h1, h2, by omega, hk _ ⟨some (.fz (qD x)), ?_⟩⟩
    rw [qsum_snoc]
  · obtain ⟨y, rfl⟩ := hI
    simp only [true_and, wpSs, wpS, wpE, wpX, wpO, wpC, wpI, ent, kt0, bindT, bindTs, tgsLen, wipeR, constD, owL, List.map_cons, List.map_nil, List.length_cons, List.length_nil, List.replicate, List.cons_append, List.nil_append, Nat.reduceSub, Nat.reduceAdd, List.getElem?_cons_zero, List.getElem?_cons_succ, List.getElem?_nil, List.set_cons_zero, List.set_cons_succ, opF, cmpF, Bi.fd, Option.map_some, if_true, if_false, Bool.true_eq_false, Bool.false_eq_true, reduceIte, Bool.not_true, Bool.not_false, w_some, w_none, w_fz0, w_fz1, w_t0, w_t1, w_t2, w_t3, w_t4, w_add, w_addL, w_addT, w_sub, w_subB, w_mul, w_mulL, w_mulT, w_mod, w_div, w_lt, w_le, w_gt, w_ge, w_is, w_isnt, w_n0, w_n1, w_n2, w_n3, w_n4, w_neg, w_atL, w_atT, w_lenL, w_lenT, w_tupL, w_tupT, w_lisL, w_lisT, w_abs, w_int, w_intB, w_gcd, w_min, w_max, w_seqL, w_seqT, w_augA, w_augS, w_augM, w_intQ, w_lstQ, w_rng1, w_rng2, w_zipL, w_zipT, w_zipM, w_zipN, w_enum, w_enumT]
    exact hP

theorem imp__law_lowest {Γ : Gam} (as : List Sl) (P : D → Prop) (PE : Str → Prop) (h : φ__law_lowest as P PE) : spW Γ d__law_lowest as P PE := by
  obtain ⟨a, b, m, n, rfl, hb, ba, bb, hn, hm, hP⟩ := h
  refine ⟨rfl, ?_⟩
  simp only [d__law_lowest, true_and, wpSs, wpS, wpE, wpX, wpO, wpC, wpI, ent, kt0, bindT, bindTs, tgsLen, wipeR, constD, owL, List.map_cons, List.map_nil, List.length_cons, List.length_nil, List.replicate, List.cons_append, List.nil_append, Nat.reduceSub, Nat.reduceAdd, List.getElem?_cons_zero, List.getElem?_cons_succ, List.getElem?_nil, List.set_cons_zero, List.set_cons_succ, opF, cmpF, Bi.fd, Option.map_some, if_true, if_false, Bool.true_eq_false, Bool.false_eq_true, reduceIte, Bool.not_true, Bool.not_false, w_some, w_none, w_fz0, w_fz1, w_t0, w_t1, w_t2, w_t3, w_t4, w_add, w_addL, w_addT, w_sub, w_subB, w_mul, w_mulL, w_mulT, w_mod, w_div, w_lt, w_le, w_gt, w_ge, w_is, w_isnt, w_n0, w_n1, w_n2, w_n3, w_n4, w_neg, w_atL, w_atT, w_lenL, w_lenT, w_tupL, w_tupT, w_lisL, w_lisT, w_abs, w_int, w_intB, w_gcd, w_min, w_max, w_seqL, w_seqT, w_augA, w_augS, w_augM, w_intQ, w_lstQ, w_rng1, w_rng2, w_zipL, w_zipT, w_zipM, w_zipN, w_enum, w_enumT]
  refine ⟨fun k ρ => ∃ c d : Int, ρ = [some (.fz (.int a)), some (.fz (.int b)), some (.fz (.int c)), some (.fz (.int d))] ∧ k = d.toNat ∧ 0 ≤ c ∧ 0 ≤ d ∧ c.natAbs.gcd d.natAbs = a.natAbs.gcd b.natAbs ∧ Bd (max m n) c ∧ Bd n d ∧ (d = 0 → 0 < c), ⟨b.toNat, a.natAbs, b, ?_, rfl, by omega, by omega, by rw [Int.natAbs_natCast], ?_, bb, by omega⟩, ?_⟩
  · have e : (if a < 0 then -a else a) = (a.natAbs : Int) := by split <;> omega
    first
      | rw [e]
      | rfl
  · exact (ba.le (j := (a.natAbs : Int)) (by simp)).mono (Nat.le_max_left _ _)
  · rintro k ρ ⟨c, d, rfl, rfl, c0, d0, hg, bc, bd, hz⟩
    simp only [true_and, wpSs, wpS, wpE, wpX, wpO, wpC, wpI, ent, kt0, bindT, bindTs, tgsLen, wipeR, constD, owL, List.map_cons, List.map_nil, List.length_cons, List.length_nil, List.replicate, List.cons_append, List.nil_append, Nat.reduceSub, Nat.reduceAdd, List.getElem?_cons_zero, List.getElem?_cons_succ, List.getElem?_nil, List.set_cons_zero, List.set_cons_succ, opF, cmpF, Bi.fd, Option.map_some, if_true, if_false, Bool.true_eq_false, Bool.false_eq_true, reduceIte, Bool.not_true, Bool.not_false, w_some, w_none, w_fz0, w_fz1, w_t0, w_t1, w_t2, w_t3, w_t4, w_add, w_addL, w_addT, w_sub, w_subB, w_mul, w_mulL, w_mulT, w_mod, w_div, w_lt, w_le, w_gt, w_ge, w_is, w_isnt, w_n0, w_n1, w_n2, w_n3, w_n4, w_neg, w_atL, w_atT, w_lenL, w_lenT, w_tupL, w_tupT, w_lisL, w_lisT, w_abs, w_int, w_intB, w_gcd, w_min, w_max, w_seqL, w_seqT, w_augA, w_augS, w_augM, w_intQ, w_lstQ, w_rng1, w_rng2, w_zipL, w_zipT, w_zipM, w_zipN, w_enum, w_enumT]
    by_cases hd : d > 0
    · rw [decide_eq_true hd]
      simp only [true_and, wpSs, wpS, wpE, wpX, wpO, wpC, wpI, ent, kt0, bindT, bindTs, tgsLen, wipeR, constD, owL, List.map_cons, List.map_nil, List.length_cons, List.length_nil, List.replicate, List.cons_append, List.nil_append, Nat.reduceSub, Nat.reduceAdd, List.getElem?_cons_zero, List.getElem?_cons_succ, List.getElem?_nil, List.set_cons_zero, List.set_cons_succ, opF, cmpF, Bi.fd, Option.map_some, if_true, if_false, Bool.true_eq_false, Bool.false_eq_true, reduceIte, Bool.not_true, Bool.not_false, w_some, w_none, w_fz0, w_fz1, w_t0, w_t1, w_t2, w_t3, w_t4, w_add, w_addL, w_addT, w_sub, w_subB, w_mul, w_mulL, w_mulT, w_mod, w_div, w_lt, w_le, w_gt, w_ge, w_is, w_isnt, w_n0, w_n1, w_n2, w_n3, w_n4, w_neg, w_atL, w_atT, w_lenL, w_lenT, w_tupL, w_tupT, w_lisL, w_lisT, w_abs, w_int, w_intB, w_gcd, w_min, w_max, w_seqL, w_seqT, w_augA, w_augS, w_augM, w_intQ, w_lstQ, w_rng1, w_rng2, w_zipL, w_zipT, w_zipM, w_zipN, w_enum, w_enumT]
      have bq : Bd (max m n) (c.fdiv d) := by
        rw [Int.fdiv_eq_ediv_of_nonneg _ (by omega)]
        exact bc.le (Int.natAbs_ediv_le_natAbs _ _)
      have em : c - d * (c.fdiv d) = c % d := by
        rw [Int.fdiv_eq_ediv_of_nonneg _ (by omega)]
        have := Int.emod_def c d
        omega
      have r0 := Int.emod_nonneg c (show d ≠ 0 by omega)
      have r1 := Int.emod_lt_of_pos c hd
      refine ⟨bd.divOk hn (by omega), bd.mulOk bq (by omega), (c % d).toNat, by omega, d, c % d, by rw [em], rfl, by omega, r0, ?_, bd.mono (Nat.le_max_right _ _), bd.le (by omega), fun _ => hd⟩
      rw [← hg, Int.natAbs_emod_of_nonneg c0, Nat.gcd_comm d.natAbs, ← Nat.gcd_rec, Nat.gcd_comm]
    · rw [decide_eq_false hd]
      have ed : d = 0 := by omega
      subst ed
      have ec : c = ((a.natAbs.gcd b.natAbs : Nat) : Int) := by
        rw [← hg, Int.natAbs_zero, Nat.gcd_zero_right]
        omega
      have e := lowest_eq (a := a) (b := b) (by omega)
      rw [if_neg (by omega)] at e
      have gl : a.natAbs.gcd b.natAbs ≤ b.natAbs := Nat.le_of_dvd (by omega) (Nat.gcd_dvd_right _ _)
      have ok : dDivOk c := by
        have := hz rfl
        rw [ec] at this ⊢
        exact (bb.le (by simpa using gl)).divOk hn (by omega)
      simp only [true_and, wpSs, wpS, wpE, wpX, wpO, wpC, wpI, ent, kt0, bindT, bindTs, tgsLen, wipeR, constD, owL, List.map_cons, List.map_nil, List.length_cons, List.length_nil, List.replicate, List.cons_append, List.nil_append, Nat.reduceSub, Nat.reduceAdd, List.getElem?_cons_zero, List.getElem?_cons_succ, List.getElem?_nil, List.set_cons_zero, List.set_cons_succ, opF, cmpF, Bi.fd, Option.map_some, if_true, if_false, Bool.true_eq_false, Bool.false_eq_true, reduceIte, Bool.not_true, Bool.not_false, w_some, w_none, w_fz0, w_fz1, w_t0, w_t1, w_t2, w_t3, w_t4, w_add, w_addL, w_addT, w_sub, w_subB, w_mul, w_mulL, w_mulT, w_mod, w_div, w_lt, w_le, w_gt, w_ge, w_is, w_isnt, w_n0, w_n1, w_n2, w_n3, w_n4, w_neg, w_atL, w_atT, w_lenL, w_lenT, w_tupL, w_tupT, w_lisL, w_lisT, w_abs, w_int, w_intB, w_gcd, w_min, w_max, w_seqL, w_seqT, w_augA, w_augS, w_augM, w_intQ, w_lstQ, w_rng1, w_rng2, w_zipL, w_zipT, w_zipM, w_zipN, w_enum, w_enumT]
      refine ⟨ok, ok, ?_⟩
      rw [ec, e]
      exact hP

theorem imp__law_plus {Γ : Gam} (e : Γ.Φ "_law_lowest" = φ__law_lowest) (as : List Sl) (P : D → Prop) (PE : Str → Prop) (h : φ__law_plus as P PE) : spW Γ d__law_plus as P PE := by
  obtain ⟨p, q, m, n, rfl, hp, hq, hl, hP⟩ := h
  refine ⟨rfl, ?_⟩
  simp only [d__law_plus, qD, true_and, wpSs, wpS, wpE, wpX, wpO, wpC, wpI, ent, kt0, bindT, bindTs, tgsLen, wipeR, constD, owL, List.map_cons, List.map_nil, List.length_cons, List.length_nil, List.replicate, List.cons_append, List.nil_append, Nat.reduceSub, Nat.reduceAdd, List.getElem?_cons_zero, List.getElem?_cons_succ, List.getElem?_nil, List.set_cons_zero, List.set_cons_succ, opF, cmpF, Bi.fd, Option.map_some, if_true, if_false, Bool.true_eq_false, Bool.false_eq_true, reduceIte, Bool.not_true, Bool.not_false, w_some, w_none, w_fz0, w_fz1, w_t0, w_t1, w_t2, w_t3, w_t4, w_add, w_addL, w_addT, w_sub, w_subB, w_mul, w_mulL, w_mulT, w_mod, w_div, w_lt, w_le, w_gt, w_ge, w_is, w_isnt, w_n0, w_n1, w_n2, w_n3, w_n4, w_neg, w_atL, w_atT, w_lenL, w_lenT, w_tupL, w_tupT, w_lisL, w_lisT, w_abs, w_int, w_intB, w_gcd, w_min, w_max, w_seqL, w_seqT, w_augA, w_augS, w_augM, w_intQ, w_lstQ, w_rng1, w_rng2, w_zipL, w_zipT, w_zipM, w_zipN, w_enum, w_enumT, atI0, atI1]
  refine ⟨hp.num.mulOk hq.den (by omega), hq.num.mulOk hp.den (by omega), hp.den.mulOk hq.den (by omega), ?_⟩
  rw [e]
  exact ⟨_, _, m + n + 1, m + n, rfl, Int.mul_pos (den_pos _) (den_pos _), (hp.num.mul hq.den).add (hq.num.mul hp.den) _ (by omega) (by omega), hp.den.mul hq.den, by omega, by omega, by rw [← add_eq]; exact hP⟩

theorem imp__law_times {Γ : Gam} (e : Γ.Φ "_law_lowest" = φ__law_lowest) (as : List Sl) (P : D → Prop) (PE : Str → Prop) (h : φ__law_times as P PE) : spW Γ d__law_times as P PE := by
  obtain ⟨p, q, m, n, rfl, hp, hq, hl, hP⟩ := h
  refine ⟨rfl, ?_⟩
  simp only [d__law_times, qD, true_and, wpSs, wpS, wpE, wpX, wpO, wpC, wpI, ent, kt0, bindT, bindTs, tgsLen, wipeR, constD, owL, List.map_cons, List.map_nil, List.length_cons, List.length_nil, List.replicate, List.cons_append, List.nil_append, Nat.reduceSub, Nat.reduceAdd, List.getElem?_cons_zero, List.getElem?_cons_succ, List.getElem?_nil, List.set_cons_zero, List.set_cons_succ, opF, cmpF, Bi.fd, Option.map_some, if_true, if_false, Bool.true_eq_false, Bool.false_eq_true, reduceIte, Bool.not_true, Bool.not_false, w_some, w_none, w_fz0, w_fz1, w_t0, w_t1, w_t2, w_t3, w_t4, w_add, w_addL, w_addT, w_sub, w_subB, w_mul, w_mulL, w_mulT, w_mod, w_div, w_lt, w_le, w_gt, w_ge, w_is, w_isnt, w_n0, w_n1, w_n2, w_n3, w_n4, w_neg, w_atL, w_atT, w_lenL, w_lenT, w_tupL, w_tupT, w_lisL, w_lisT, w_abs, w_int, w_intB, w_gcd, w_min, w_max, w_seqL, w_seqT, w_augA, w_augS, w_augM, w_intQ, w_lstQ, w_rng1, w_rng2, w_zipL, w_zipT, w_zipM, w_zipN, w_enum, w_enumT, atI0, atI1]
  refine ⟨hp.num.mulOk hq.num (by omega), hp.den.mulOk hq.den (by omega), ?_⟩
  rw [e]
  exact ⟨_, _, m + n, m + n, rfl, Int.mul_pos (den_pos _) (den_pos _), hp.num.mul hq.num, hp.den.mul hq.den, by omega, by omega, by rw [← mul_eq]; exact hP⟩

theorem imp__law_less {Γ : Gam} (as : List Sl) (P : D → Prop) (PE : Str → Prop) (h : φ__law_less as P PE) : spW Γ d__law_less as P PE := by
  obtain ⟨a, b, c, d, m, n, rfl, ha, hb, hc, hd, hl, hP⟩ := h
  refine ⟨rfl, ?_⟩
  simp only [d__law_less, qD, true_and, wpSs, wpS, wpE, wpX, wpO, wpC, wpI, ent, kt0, bindT, bindTs, tgsLen, wipeR, constD, owL, List.map_cons, List.map_nil, List.length_cons, List.length_nil, List.replicate, List.cons_append, List.nil_append, Nat.reduceSub, Nat.reduceAdd, List.getElem?_cons_zero, List.getElem?_cons_succ, List.getElem?_nil, List.set_cons_zero, List.set_cons_succ, opF, cmpF, Bi.fd, Option.map_some, if_true, if_false, Bool.true_eq_false, Bool.false_eq_true, reduceIte, Bool.not_true, Bool.not_false, w_some, w_none, w_fz0, w_fz1, w_t0, w_t1, w_t2, w_t3, w_t4, w_add, w_addL, w_addT, w_sub, w_subB, w_mul, w_mulL, w_mulT, w_mod, w_div, w_lt, w_le, w_gt, w_ge, w_is, w_isnt, w_n0, w_n1, w_n2, w_n3, w_n4, w_neg, w_atL, w_atT, w_lenL, w_lenT, w_tupL, w_tupT, w_lisL, w_lisT, w_abs, w_int, w_intB, w_gcd, w_min, w_max, w_seqL, w_seqT, w_augA, w_augS, w_augM, w_intQ, w_lstQ, w_rng1, w_rng2, w_zipL, w_zipT, w_zipM, w_zipN, w_enum, w_enumT, atI0, atI1]
  exact ⟨ha.mulOk hd (by omega), hc.mulOk hb (by omega), hP⟩

theorem imp__law_total {Γ : Gam} (e : Γ.Φ "_law_plus" = φ__law_plus) (as : List Sl) (P : D → Prop) (PE : Str → Prop) (h : φ__law_total as P PE) : spW Γ d__law_total as P PE := by
  obtain ⟨b, l, m, rfl, hs, hm, hP⟩ := h
  refine ⟨rfl, ?_⟩
  simp only [d__law_total, true_and, wpSs, wpS, wpE, wpX, wpO, wpC, wpI, ent, kt0, bindT, bindTs, tgsLen, wipeR, constD, owL, List.map_cons, List.map_nil, List.length_cons, List.length_nil, List.replicate, List.cons_append, List.nil_append, Nat.reduceSub, Nat.reduceAdd, List.getElem?_cons_zero, List.getElem?_cons_succ, List.getElem?_nil, List.set_cons_zero, List.set_cons_succ, opF, cmpF, Bi.fd, Option.map_some, if_true, if_false, Bool.true_eq_false, Bool.false_eq_true, reduceIte, Bool.not_true, Bool.not_false, w_some, w_none, w_fz0, w_fz1, w_t0, w_t1, w_t2, w_t3, w_t4, w_add, w_addL, w_addT, w_sub, w_subB, w_mul, w_mulL, w_mulT, w_mod, w_div, w_lt, w_le, w_gt, w_ge, w_is, w_isnt, w_n0, w_n1, w_n2, w_n3, w_n4, w_neg, w_atL, w_atT, w_lenL, w_lenT, w_tupL, w_tupT, w_lisL, w_lisT, w_abs, w_int, w_intB, w_gcd, w_min, w_max, w_seqL, w_seqT, w_augA, w_augS, w_augM, w_intQ, w_lstQ, w_rng1, w_rng2, w_zipL, w_zipT, w_zipM, w_zipN, w_enum, w_enumT]
  refine seqOf_seqD (forW_inv (I := fun done ρ => ∃ y, ρ = [some (.fz (seqD b (l.map qD))), some (.fz (qD (qsum done))), y]) ⟨none, rfl⟩ (fun done x rest ρ kk el hI hk => ?_) (fun ρ hI => ?_))
  · obtain ⟨y, rfl⟩ := hI
    have h1 := hs.su done (x :: rest) el
    have h2 := hs.it x (by rw [el]; simp)
    simp only [true_and, wpSs, wpS, wpE, wpX, wpO, wpC, wpI, ent, kt0, bindT, bindTs, tgsLen, wipeR, constD, owL, List.map_cons, List.map_nil, List.length_cons, List.length_nil, List.replicate, List.cons_append, List.nil_append, Nat.reduceSub, Nat.reduceAdd, List.getElem?_cons_zero, List.getElem?_cons_succ, List.getElem?_nil, List.set_cons_zero, List.set_cons_succ, opF, cmpF, Bi.fd, Option.map_some, if_true, if_false, Bool.true_eq_false, Bool.false_eq_true, reduceIte, Bool.not_true, Bool.not_false, w_some, w_none, w_fz0, w_fz1, w_t0, w_t1, w_t2, w_t3, w_t4, w_add, w_addL, w_addT, w_sub, w_subB, w_mul, w_mulL, w_mulT, w_mod, w_div, w_lt, w_le, w_gt, w_ge, w_is, w_isnt, w_n0, w_n1, w_n2, w_n3, w_n4, w_neg, w_atL, w_atT, w_lenL, w_lenT, w_tupL, w_tupT, w_lisL, w_lisT, w_abs, w_int, w_intB, w_gcd, w_min, w_max, w_seqL, w_seqT, w_augA, w_augS, w_augM, w_intQ, w_lstQ, w_rng1, w_rng2, w_zipL, w_zipT, w_zipM, w_zipN, w_enum, w_enumT]
    rw [e]
    refine ⟨_, _, _, _, rfl, h1, h2, by omega, hk _ ⟨some (.fz (qD x)), ?_⟩⟩
    rw [qsum_snoc]
  · obtain ⟨y, rfl⟩ := hI
    simp only [true_and, wpSs, wpS, wpE, wpX, wpO, wpC, wpI, ent, kt0, bindT, bindTs, tgsLen, wipeR, constD, owL, List.map_cons, List.map_nil, List.length_cons, List.length_nil, List.replicate, List.cons_append, List.nil_append, Nat.reduceSub, Nat.reduceAdd, List.getElem?_cons_zero, List.getElem?_cons_succ, List.getElem?_nil, List.set_cons_zero, List.set_cons_succ, opF, cmpF, Bi.fd, Option.map_some, if_true, if_false, Bool.true_eq_false, Bool.false_eq_true, reduceIte, Bool.not_true, Bool.not_false, w_some, w_none, w_fz0, w_fz1, w_t0, w_t1, w_t2, w_t3, w_t4, w_add, w_addL, w_addT, w_sub, w_subB, w_mul, w_mulL, w_mulT, w_mod, w_div, w_lt, w_le, w_gt, w_ge, w_is, w_isnt, w_n0, w_n1, w_n2, w_n3, w_n4, w_neg, w_atL, w_atT, w_lenL, w_lenT, w_tupL, w_tupT, w_lisL, w_lisT, w_abs, w_int, w_intB, w_gcd, w_min, w_max, w_seqL, w_seqT, w_augA, w_augS, w_augM, w_intQ, w_lstQ, w_rng1, w_rng2, w_zipL, w_zipT, w_zipM, w_zipN, w_enum, w_enumT]
    exact hP

theorem imp__law_row {Γ : Gam} (e1 : Γ.Φ "_law_take" = φTake) (e2 : Γ.Φ "_law_lowest" = φ__law_lowest) (as : List Sl) (P : D → Prop) (PE : Str → Prop) (h : φ__law_row as P PE) : spW Γ d__law_row as P PE := by
  obtain ⟨m, rfl, hm1, hm2, hP⟩ := h
  refine ⟨rfl, ?_⟩
  simp only [d__law_row, true_and, wpSs, wpS, wpE, wpX, wpO, wpC, wpI, ent, kt0, bindT, bindTs, tgsLen, wipeR, constD, owL, List.map_cons, List.map_nil, List.length_cons, List.length_nil, List.replicate, List.cons_append, List.nil_append, Nat.reduceSub, Nat.reduceAdd, List.getElem?_cons_zero, List.getElem?_cons_succ, List.getElem?_nil, List.set_cons_zero, List.set_cons_succ, opF, cmpF, Bi.fd, Option.map_some, if_true, if_false, Bool.true_eq_false, Bool.false_eq_true, reduceIte, Bool.not_true, Bool.not_false, w_some, w_none, w_fz0, w_fz1, w_t0, w_t1, w_t2, w_t3, w_t4, w_add, w_addL, w_addT, w_sub, w_subB, w_mul, w_mulL, w_mulT, w_mod, w_div, w_lt, w_le, w_gt, w_ge, w_is, w_isnt, w_n0, w_n1, w_n2, w_n3, w_n4, w_neg, w_atL, w_atT, w_lenL, w_lenT, w_tupL, w_tupT, w_lisL, w_lisT, w_abs, w_int, w_intB, w_gcd, w_min, w_max, w_seqL, w_seqT, w_augA, w_augS, w_augM, w_intQ, w_lstQ, w_rng1, w_rng2, w_zipL, w_zipT, w_zipM, w_zipN, w_enum, w_enumT, e1]
  refine ⟨rngOk_small (by omega) (by omega), ?_⟩
  rw [Int.toNat_natCast, rangeD0]
  refine ⟨by rw [List.length_map, List.length_range]; exact small (by omega), ?_⟩
  refine foldW_any (R := fun _ y => ∃ i : Int, y = PyData.int i ∧ (0 ≤ i ∧ i ≤ 3)) (fun k acc kk hk hkk => ?_) (fun ys hys => ?_)
  · refine ⟨5, rfl, by decide, by decide, fun z z0 z1 => ?_⟩
    have : z = 0 ∨ z = 1 ∨ z = 2 ∨ z = 3 ∨ z = 4 := by omega
    rcases this with rfl | rfl | rfl | rfl | rfl
    · exact hkk _ ⟨0, rfl, by decide, by decide⟩
    · exact hkk _ ⟨1, rfl, by decide, by decide⟩
    · exact hkk _ ⟨1, rfl, by decide, by decide⟩
    · exact hkk _ ⟨2, rfl, by decide, by decide⟩
    · exact hkk _ ⟨3, rfl, by decide, by decide⟩
  · obtain ⟨ws, rfl, hl, hw⟩ := paired_ints hys
    rw [List.length_range] at hl
    refine ⟨(m : Int), rfl, by omega, by omega, fun z z0 z1 => ?_⟩
    obtain ⟨j, rfl⟩ : ∃ j : Nat, z = (j : Int) := ⟨z.toNat, by omega⟩
    have hj : j < ws.length := by omega
    have ea : atI (ws.map PyData.int) (j : Int) = some (.int ws[j]) := atI_nat (by rw [List.getElem?_map, List.getElem?_eq_getElem hj]; rfl)
    have ei : ixN (ws.map PyData.int).length (j : Int) = some j := by
      unfold ixN
      rw [List.length_map, if_pos (by omega), if_pos (by omega), Int.toNat_natCast]
    simp only [true_and, wpSs, wpS, wpE, wpX, wpO, wpC, wpI, ent, kt0, bindT, bindTs, tgsLen, wipeR, constD, owL, List.map_cons, List.map_nil, List.length_cons, List.length_nil, List.replicate, List.cons_append, List.nil_append, Nat.reduceSub, Nat.reduceAdd, List.getElem?_cons_zero, List.getElem?_cons_succ, List.getElem?_nil, List.set_cons_zero, List.set_cons_succ, opF, cmpF, Bi.fd, Option.map_some, if_true, if_false, Bool.true_eq_false, Bool.false_eq_true, reduceIte, Bool.not_true, Bool.not_false, w_some, w_none, w_fz0, w_fz1, w_t0, w_t1, w_t2, w_t3, w_t4, w_add, w_addL, w_addT, w_sub, w_subB, w_mul, w_mulL, w_mulT, w_mod, w_div, w_lt, w_le, w_gt, w_ge, w_is, w_isnt, w_n0, w_n1, w_n2, w_n3, w_n4, w_neg, w_atL, w_atT, w_lenL, w_lenT, w_tupL, w_tupT, w_lisL, w_lisT, w_abs, w_int, w_intB, w_gcd, w_min, w_max, w_seqL, w_seqT, w_augA, w_augS, w_augM, w_intQ, w_lstQ, w_rng1, w_rng2, w_zipL, w_zipT, w_zipM, w_zipN, w_enum, w_enumT, ea, ei]
    have es : (ws.map PyData.int).set j (PyData.int (ws[j] + 1)) = (ws.set j (ws[j] + 1)).map PyData.int := List.map_set.symm
    rw [es]
    have hsum : (ws.set j (ws[j] + 1)).sum = ws.sum + 1 := by rw [sum_set hj]; omega
    have hnn : ∀ w ∈ ws.set j (ws[j] + 1), 0 ≤ w := fun w hw2 => by
      rcases List.mem_or_eq_of_mem_set hw2 with h | h
      · exact (hw w h).1
      · have := (hw _ (List.getElem_mem hj)).1
        omega
    have s0 := sum_nonneg fun w h => (hw w h).1
    have s3 := sum_le_mul (B := 3) fun w h => (hw w h).2
    have hR : RowW m (ws.set j (ws[j] + 1)) (ws.sum + 1) := ⟨by rw [List.length_set]; exact hl, hnn, hsum, by omega, by rw [hl] at s3; omega⟩
    have hP := hP _ _ hR
    generalize ws.set j (ws[j] + 1) = us at *
    generalize ws.sum + 1 = S at *
    refine ⟨by rw [List.length_map, hR.len]; exact small (by omega), ?_⟩
    refine foldW_map (fun w => qD (Rat.divInt w S)) (fun w acc kk hw hk => ?_) ?_
    · have h1 := hR.s1
      have h2 := hR.s2
      have h3 := hnn w hw
      have h4 := le_sum hnn hw
      simp only [dSum, intsOf_map, w_some, e2, hsum]
      exact ⟨w, S, 7, 7, rfl, by omega, bd7 h3 (by omega), bd7 (by omega) h2, by decide, by decide, hk⟩
    · exact hP

theorem imp__law_channel {Γ : Gam} (e1 : Γ.Φ "_law_take" = φTake) (e2 : Γ.Φ "_law_row" = φ__law_row) (as : List Sl) (P : D → Prop) (PE : Str → Prop) (h : φ__law_channel as P PE) : spW Γ d__law_channel as P PE := by
  obtain ⟨m, n, rfl, m1, m2, n1, n2, hP⟩ := h
  refine ⟨rfl, ?_⟩
  simp only [d__law_channel, true_and, wpSs, wpS, wpE, wpX, wpO, wpC, wpI, ent, kt0, bindT, bindTs, tgsLen, wipeR, constD, owL, List.map_cons, List.map_nil, List.length_cons, List.length_nil, List.replicate, List.cons_append, List.nil_append, Nat.reduceSub, Nat.reduceAdd, List.getElem?_cons_zero, List.getElem?_cons_succ, List.getElem?_nil, List.set_cons_zero, List.set_cons_succ, opF, cmpF, Bi.fd, Option.map_some, if_true, if_false, Bool.true_eq_false, Bool.false_eq_true, reduceIte, Bool.not_true, Bool.not_false, w_some, w_none, w_fz0, w_fz1, w_t0, w_t1, w_t2, w_t3, w_t4, w_add, w_addL, w_addT, w_sub, w_subB, w_mul, w_mulL, w_mulT, w_mod, w_div, w_lt, w_le, w_gt, w_ge, w_is, w_isnt, w_n0, w_n1, w_n2, w_n3, w_n4, w_neg, w_atL, w_atT, w_lenL, w_lenT, w_tupL, w_tupT, w_lisL, w_lisT, w_abs, w_int, w_intB, w_gcd, w_min, w_max, w_seqL, w_seqT, w_augA, w_augS, w_augM, w_intQ, w_lstQ, w_rng1, w_rng2, w_zipL, w_zipT, w_zipM, w_zipN, w_enum, w_enumT, e1, e2]
  refine ⟨rngOk_small (by omega) (by omega), ?_⟩
  rw [Int.toNat_natCast, rangeD0]
  refine ⟨by rw [List.length_map, List.length_range]; exact small (by omega), ?_⟩
  refine foldW_any (R := fun _ y => ∃ r, y = rowQ r ∧ ChR n r) (fun k acc kk hk hkk => ?_) (fun ys hys => ?_)
  · exact ⟨n, rfl, n1, n2, fun ws S hR => hkk _ ⟨_, rowD_rowQ ws S, hR.chr⟩⟩
  · obtain ⟨c, rfl, hl, hc⟩ := paired_map hys
    rw [List.length_range] at hl
    have out : ∀ c : List (List Rat), c.length = m → (∀ r ∈ c, ChR n r) → P (.tuple (c.map rowQ)) := fun c h1 h2 => hP c ⟨h1, h2⟩
    have e : ∀ z : Int, dEq (.int z) (.int 0) = dEq (.int z) (.int 0) := fun _ => rfl
    by_cases c1 : (m : Int) > 1
    · rw [decide_eq_true c1]
      simp only [true_and, wpSs, wpS, wpE, wpX, wpO, wpC, wpI, ent, kt0, bindT, bindTs, tgsLen, wipeR, constD, owL, List.map_cons, List.map_nil, List.length_cons, List.length_nil, List.replicate, List.cons_append, List.nil_append, Nat.reduceSub, Nat.reduceAdd, List.getElem?_cons_zero, List.getElem?_cons_succ, List.getElem?_nil, List.set_cons_zero, List.set_cons_succ, opF, cmpF, Bi.fd, Option.map_some, if_true, if_false, Bool.true_eq_false, Bool.false_eq_true, reduceIte, Bool.not_true, Bool.not_false, w_some, w_none, w_fz0, w_fz1, w_t0, w_t1, w_t2, w_t3, w_t4, w_add, w_addL, w_addT, w_sub, w_subB, w_mul, w_mulL, w_mulT, w_mod, w_div, w_lt, w_le, w_gt, w_ge, w_is, w_isnt, w_n0, w_n1, w_n2, w_n3, w_n4, w_neg, w_atL, w_atT, w_lenL, w_lenT, w_tupL, w_tupT, w_lisL, w_lisT, w_abs, w_int, w_intB, w_gcd, w_min, w_max, w_seqL, w_seqT, w_augA, w_augS, w_augM, w_intQ, w_lstQ, w_rng1, w_rng2, w_zipL, w_zipT, w_zipM, w_zipN, w_enum, w_enumT]
      refine ⟨4, rfl, by decide, by decide, fun z z0 z1 => dEqI ?_⟩
      by_cases c2 : z = 0
      · rw [decide_eq_true c2]
        simp only [true_and, wpSs, wpS, wpE, wpX, wpO, wpC, wpI, ent, kt0, bindT, bindTs, tgsLen, wipeR, constD, owL, List.map_cons, List.map_nil, List.length_cons, List.length_nil, List.replicate, List.cons_append, List.nil_append, Nat.reduceSub, Nat.reduceAdd, List.getElem?_cons_zero, List.getElem?_cons_succ, List.getElem?_nil, List.set_cons_zero, List.set_cons_succ, opF, cmpF, Bi.fd, Option.map_some, if_true, if_false, Bool.true_eq_false, Bool.false_eq_true, reduceIte, Bool.not_true, Bool.not_false, w_some, w_none, w_fz0, w_fz1, w_t0, w_t1, w_t2, w_t3, w_t4, w_add, w_addL, w_addT, w_sub, w_subB, w_mul, w_mulL, w_mulT, w_mod, w_div, w_lt, w_le, w_gt, w_ge, w_is, w_isnt, w_n0, w_n1, w_n2, w_n3, w_n4, w_neg, w_atL, w_atT, w_lenL, w_lenT, w_tupL, w_tupT, w_lisL, w_lisT, w_abs, w_int, w_intB, w_gcd, w_min, w_max, w_seqL, w_seqT, w_augA, w_augS, w_augM, w_intQ, w_lstQ, w_rng1, w_rng2, w_zipL, w_zipT, w_zipM, w_zipN, w_enum, w_enumT]
        refine ⟨m, rfl, by omega, by omega, fun u u0 u1 => ?_⟩
        obtain ⟨j, rfl⟩ : ∃ j : Nat, u = (j : Int) := ⟨u.toNat, by omega⟩
        simp only [true_and, wpSs, wpS, wpE, wpX, wpO, wpC, wpI, ent, kt0, bindT, bindTs, tgsLen, wipeR, constD, owL, List.map_cons, List.map_nil, List.length_cons, List.length_nil, List.replicate, List.cons_append, List.nil_append, Nat.reduceSub, Nat.reduceAdd, List.getElem?_cons_zero, List.getElem?_cons_succ, List.getElem?_nil, List.set_cons_zero, List.set_cons_succ, opF, cmpF, Bi.fd, Option.map_some, if_true, if_false, Bool.true_eq_false, Bool.false_eq_true, reduceIte, Bool.not_true, Bool.not_false, w_some, w_none, w_fz0, w_fz1, w_t0, w_t1, w_t2, w_t3, w_t4, w_add, w_addL, w_addT, w_sub, w_subB, w_mul, w_mulL, w_mulT, w_mod, w_div, w_lt, w_le, w_gt, w_ge, w_is, w_isnt, w_n0, w_n1, w_n2, w_n3, w_n4, w_neg, w_atL, w_atT, w_lenL, w_lenT, w_tupL, w_tupT, w_lisL, w_lisT, w_abs, w_int, w_intB, w_gcd, w_min, w_max, w_seqL, w_seqT, w_augA, w_augS, w_augM, w_intQ, w_lstQ, w_rng1, w_rng2, w_zipL, w_zipT, w_zipM, w_zipN, w_enum, w_enumT]
        rw [at_map (getD_some [] (show j < c.length by omega))]
        simp only [true_and, wpSs, wpS, wpE, wpX, wpO, wpC, wpI, ent, kt0, bindT, bindTs, tgsLen, wipeR, constD, owL, List.map_cons, List.map_nil, List.length_cons, List.length_nil, List.replicate, List.cons_append, List.nil_append, Nat.reduceSub, Nat.reduceAdd, List.getElem?_cons_zero, List.getElem?_cons_succ, List.getElem?_nil, List.set_cons_zero, List.set_cons_succ, opF, cmpF, Bi.fd, Option.map_some, if_true, if_false, Bool.true_eq_false, Bool.false_eq_true, reduceIte, Bool.not_true, Bool.not_false, w_some, w_none, w_fz0, w_fz1, w_t0, w_t1, w_t2, w_t3, w_t4, w_add, w_addL, w_addT, w_sub, w_subB, w_mul, w_mulL, w_mulT, w_mod, w_div, w_lt, w_le, w_gt, w_ge, w_is, w_isnt, w_n0, w_n1, w_n2, w_n3, w_n4, w_neg, w_atL, w_atT, w_lenL, w_lenT, w_tupL, w_tupT, w_lisL, w_lisT, w_abs, w_int, w_intB, w_gcd, w_min, w_max, w_seqL, w_seqT, w_augA, w_augS, w_augM, w_intQ, w_lstQ, w_rng1, w_rng2, w_zipL, w_zipT, w_zipM, w_zipN, w_enum, w_enumT]
        refine ⟨m, rfl, by omega, by omega, fun v v0 v1 => ?_⟩
        obtain ⟨i, rfl⟩ : ∃ i : Nat, v = (i : Int) := ⟨v.toNat, by omega⟩
        simp only [true_and, wpSs, wpS, wpE, wpX, wpO, wpC, wpI, ent, kt0, bindT, bindTs, tgsLen, wipeR, constD, owL, List.map_cons, List.map_nil, List.length_cons, List.length_nil, List.replicate, List.cons_append, List.nil_append, Nat.reduceSub, Nat.reduceAdd, List.getElem?_cons_zero, List.getElem?_cons_succ, List.getElem?_nil, List.set_cons_zero, List.set_cons_succ, opF, cmpF, Bi.fd, Option.map_some, if_true, if_false, Bool.true_eq_false, Bool.false_eq_true, reduceIte, Bool.not_true, Bool.not_false, w_some, w_none, w_fz0, w_fz1, w_t0, w_t1, w_t2, w_t3, w_t4, w_add, w_addL, w_addT, w_sub, w_subB, w_mul, w_mulL, w_mulT, w_mod, w_div, w_lt, w_le, w_gt, w_ge, w_is, w_isnt, w_n0, w_n1, w_n2, w_n3, w_n4, w_neg, w_atL, w_atT, w_lenL, w_lenT, w_tupL, w_tupT, w_lisL, w_lisT, w_abs, w_int, w_intB, w_gcd, w_min, w_max, w_seqL, w_seqT, w_augA, w_augS, w_augM, w_intQ, w_lstQ, w_rng1, w_rng2, w_zipL, w_zipT, w_zipM, w_zipN, w_enum, w_enumT]
        rw [ixN_nat (by rw [List.length_map]; omega)]
        simp only [true_and, wpSs, wpS, wpE, wpX, wpO, wpC, wpI, ent, kt0, bindT, bindTs, tgsLen, wipeR, constD, owL, List.map_cons, List.map_nil, List.length_cons, List.length_nil, List.replicate, List.cons_append, List.nil_append, Nat.reduceSub, Nat.reduceAdd, List.getElem?_cons_zero, List.getElem?_cons_succ, List.getElem?_nil, List.set_cons_zero, List.set_cons_succ, opF, cmpF, Bi.fd, Option.map_some, if_true, if_false, Bool.true_eq_false, Bool.false_eq_true, reduceIte, Bool.not_true, Bool.not_false, w_some, w_none, w_fz0, w_fz1, w_t0, w_t1, w_t2, w_t3, w_t4, w_add, w_addL, w_addT, w_sub, w_subB, w_mul, w_mulL, w_mulT, w_mod, w_div, w_lt, w_le, w_gt, w_ge, w_is, w_isnt, w_n0, w_n1, w_n2, w_n3, w_n4, w_neg, w_atL, w_atT, w_lenL, w_lenT, w_tupL, w_tupT, w_lisL, w_lisT, w_abs, w_int, w_intB, w_gcd, w_min, w_max, w_seqL, w_seqT, w_augA, w_augS, w_augM, w_intQ, w_lstQ, w_rng1, w_rng2, w_zipL, w_zipT, w_zipM, w_zipN, w_enum, w_enumT]
        rw [← List.map_set]
        refine out _ (by rw [List.length_set]; exact hl) fun r hr => ?_
        rcases List.mem_or_eq_of_mem_set hr with h | h
        · exact hc r h
        · rw [h]
          exact hc _ (getD_mem [] (by omega))
      · rw [decide_eq_false c2]
        simp only [true_and, wpSs, wpS, wpE, wpX, wpO, wpC, wpI, ent, kt0, bindT, bindTs, tgsLen, wipeR, constD, owL, List.map_cons, List.map_nil, List.length_cons, List.length_nil, List.replicate, List.cons_append, List.nil_append, Nat.reduceSub, Nat.reduceAdd, List.getElem?_cons_zero, List.getElem?_cons_succ, List.getElem?_nil, List.set_cons_zero, List.set_cons_succ, opF, cmpF, Bi.fd, Option.map_some, if_true, if_false, Bool.true_eq_false, Bool.false_eq_true, reduceIte, Bool.not_true, Bool.not_false, w_some, w_none, w_fz0, w_fz1, w_t0, w_t1, w_t2, w_t3, w_t4, w_add, w_addL, w_addT, w_sub, w_subB, w_mul, w_mulL, w_mulT, w_mod, w_div, w_lt, w_le, w_gt, w_ge, w_is, w_isnt, w_n0, w_n1, w_n2, w_n3, w_n4, w_neg, w_atL, w_atT, w_lenL, w_lenT, w_tupL, w_tupT, w_lisL, w_lisT, w_abs, w_int, w_intB, w_gcd, w_min, w_max, w_seqL, w_seqT, w_augA, w_augS, w_augM, w_intQ, w_lstQ, w_rng1, w_rng2, w_zipL, w_zipT, w_zipM, w_zipN, w_enum, w_enumT]
        exact out c hl hc
    · rw [decide_eq_false c1]
      simp only [true_and, wpSs, wpS, wpE, wpX, wpO, wpC, wpI, ent, kt0, bindT, bindTs, tgsLen, wipeR, constD, owL, List.map_cons, List.map_nil, List.length_cons, List.length_nil, List.replicate, List.cons_append, List.nil_append, Nat.reduceSub, Nat.reduceAdd, List.getElem?_cons_zero, List.getElem?_cons_succ, List.getElem?_nil, List.set_cons_zero, List.set_cons_succ, opF, cmpF, Bi.fd, Option.map_some, if_true, if_false, Bool.true_eq_false, Bool.false_eq_true, reduceIte, Bool.not_true, Bool.not_false, w_some, w_none, w_fz0, w_fz1, w_t0, w_t1, w_t2, w_t3, w_t4, w_add, w_addL, w_addT, w_sub, w_subB, w_mul, w_mulL, w_mulT, w_mod, w_div, w_lt, w_le, w_gt, w_ge, w_is, w_isnt, w_n0, w_n1, w_n2, w_n3, w_n4, w_neg, w_atL, w_atT, w_lenL, w_lenT, w_tupL, w_tupT, w_lisL, w_lisT, w_abs, w_int, w_intB, w_gcd, w_min, w_max, w_seqL, w_seqT, w_augA, w_augS, w_augM, w_intQ, w_lstQ, w_rng1, w_rng2, w_zipL, w_zipT, w_zipM, w_zipN, w_enum, w_enumT]
      exact out c hl hc

theorem imp__law_gains {Γ : Gam} (e1 : Γ.Φ "_law_take" = φTake) (as : List Sl) (P : D → Prop) (PE : Str → Prop) (h : φ__law_gains as P PE) : spW Γ d__law_gains as P PE := by
  obtain ⟨m, most, rfl, m2, n1, n2, hP⟩ := h
  refine ⟨rfl, ?_⟩
  simp only [d__law_gains, true_and, wpSs, wpS, wpE, wpX, wpO, wpC, wpI, ent, kt0, bindT, bindTs, tgsLen, wipeR, constD, owL, List.map_cons, List.map_nil, List.length_cons, List.length_nil, List.replicate, List.cons_append, List.nil_append, Nat.reduceSub, Nat.reduceAdd, List.getElem?_cons_zero, List.getElem?_cons_succ, List.getElem?_nil, List.set_cons_zero, List.set_cons_succ, opF, cmpF, Bi.fd, Option.map_some, if_true, if_false, Bool.true_eq_false, Bool.false_eq_true, reduceIte, Bool.not_true, Bool.not_false, w_some, w_none, w_fz0, w_fz1, w_t0, w_t1, w_t2, w_t3, w_t4, w_add, w_addL, w_addT, w_sub, w_subB, w_mul, w_mulL, w_mulT, w_mod, w_div, w_lt, w_le, w_gt, w_ge, w_is, w_isnt, w_n0, w_n1, w_n2, w_n3, w_n4, w_neg, w_atL, w_atT, w_lenL, w_lenT, w_tupL, w_tupT, w_lisL, w_lisT, w_abs, w_int, w_intB, w_gcd, w_min, w_max, w_seqL, w_seqT, w_augA, w_augS, w_augM, w_intQ, w_lstQ, w_rng1, w_rng2, w_zipL, w_zipT, w_zipM, w_zipN, w_enum, w_enumT, e1]
  refine ⟨most, rfl, by omega, by omega, fun z z0 z1 => ?_⟩
  obtain ⟨k, rfl⟩ : ∃ k : Nat, z = (k : Int) := ⟨z.toNat, by omega⟩
  simp only [true_and, wpSs, wpS, wpE, wpX, wpO, wpC, wpI, ent, kt0, bindT, bindTs, tgsLen, wipeR, constD, owL, List.map_cons, List.map_nil, List.length_cons, List.length_nil, List.replicate, List.cons_append, List.nil_append, Nat.reduceSub, Nat.reduceAdd, List.getElem?_cons_zero, List.getElem?_cons_succ, List.getElem?_nil, List.set_cons_zero, List.set_cons_succ, opF, cmpF, Bi.fd, Option.map_some, if_true, if_false, Bool.true_eq_false, Bool.false_eq_true, reduceIte, Bool.not_true, Bool.not_false, w_some, w_none, w_fz0, w_fz1, w_t0, w_t1, w_t2, w_t3, w_t4, w_add, w_addL, w_addT, w_sub, w_subB, w_mul, w_mulL, w_mulT, w_mod, w_div, w_lt, w_le, w_gt, w_ge, w_is, w_isnt, w_n0, w_n1, w_n2, w_n3, w_n4, w_neg, w_atL, w_atT, w_lenL, w_lenT, w_tupL, w_tupT, w_lisL, w_lisT, w_abs, w_int, w_intB, w_gcd, w_min, w_max, w_seqL, w_seqT, w_augA, w_augS, w_augM, w_intQ, w_lstQ, w_rng1, w_rng2, w_zipL, w_zipT, w_zipM, w_zipN, w_enum, w_enumT]
  refine ⟨rngOk_small (by omega) (by omega), ?_⟩
  rw [show (1 + (k : Int)).toNat = k + 1 by omega, rangeD0]
  refine ⟨by rw [List.length_map, List.length_range]; exact small (by omega), ?_⟩
  refine foldW_any (R := fun _ y => ∃ r, y = rowI r ∧ (r.length = m ∧ ∀ x ∈ r, -3 ≤ x ∧ x ≤ 5)) (fun i acc kk hi hkk => ?_) (fun ys hys => ?_)
  · refine ⟨rngOk_small (by omega) (by omega), ?_⟩
    rw [Int.toNat_natCast, rangeD0]
    refine ⟨by rw [List.length_map, List.length_range]; exact small (by omega), ?_⟩
    refine foldW_any (R := fun _ y => ∃ i : Int, y = PyData.int i ∧ (-3 ≤ i ∧ i ≤ 5)) (fun i acc kk hi hkk => ?_) (fun ys hys => ?_)
    · refine ⟨5, rfl, by decide, by decide, fun z z0 z1 => ?_⟩
      have : z = 0 ∨ z = 1 ∨ z = 2 ∨ z = 3 ∨ z = 4 := by omega
      rcases this with rfl | rfl | rfl | rfl | rfl
      · exact hkk _ ⟨0, rfl, by decide, by decide⟩
      · exact hkk _ ⟨1, rfl, by decide, by decide⟩
      · exact hkk _ ⟨2, rfl, by decide, by decide⟩
      · exact hkk _ ⟨5, rfl, by decide, by decide⟩
      · exact hkk _ ⟨-3, rfl, by decide, by decide⟩
    · obtain ⟨ws, rfl, hl, hw⟩ := paired_ints hys
      rw [List.length_range] at hl
      exact hkk _ ⟨ws, rfl, hl, hw⟩
  · obtain ⟨g, rfl, hl, hg⟩ := paired_rows hys
    rw [List.length_range] at hl
    exact hP g ⟨by omega, by omega, hg⟩

end DL

set_option Elab.async false
set_option linter.all false
set_option maxRecDepth 100000
set_option maxHeartbeats 4000000
namespace DL
open PySem PySem.Spec PyProof.Rows L2
/-! ### sorting rows of whole numbers -/
theorem dataLt_tuple (xs ys : List D) : PySem.W.dataLt (.tuple xs) (.tuple ys) = PySem.W.rowLt xs ys := rfl
theorem dataLe_tups {β : Type} (x : β → List Int) : PySem.W.dataLe false (fun b => .tuple ((x b).map .int)) = fun p q => decide (x p ≤ x q) := by
  funext p q
  show (!PySem.W.dataLt (.tuple ((x q).map .int)) (.tuple ((x p).map .int))) = _
  rw [dataLt_tuple, PySem.W.dataLt_ints]
  by_cases h : x q < x p
  · rw [decide_eq_true h, decide_eq_false (by rw [List.not_le]; exact h)]
    rfl
  · rw [decide_eq_false h, decide_eq_true (by rw [← List.not_lt]; exact h)]
    rfl
def leR (a b : List Int) : Bool := decide (a ≤ b)
def srt (l : List (List Int)) : List (List Int) := l.mergeSort leR
theorem sortD_rows (l : List (List Int)) : sortD (l.map rowI) = (srt l).map rowI := by
  unfold sortD srt
  have e : PySem.W.dataLe false (rowI : List Int → D) = leR := dataLe_tups (fun b => b)
  have := PySem.W.sort_maps (r := leR) (s := ltD) (l := l) (rowI : List Int → D) fun a _ b _ => by rw [← e]; rfl
  exact this.symm
theorem leR_trans (a b c : List Int) (h : leR a b = true) (k : leR b c = true) : leR a c = true := by
  unfold leR at *
  simp only [decide_eq_true_eq] at *
  exact List.le_trans h k
theorem leR_total (a b : List Int) : (leR a b || leR b a) = true := by
  unfold leR
  rw [Bool.or_eq_true, decide_eq_true_eq, decide_eq_true_eq]
  exact List.le_total a b
theorem srt_perm (l : List (List Int)) : (srt l).Perm l := List.mergeSort_perm _ _
theorem srt_srt (l : List (List Int)) : srt (srt l) = srt l := List.mergeSort_of_pairwise (List.pairwise_mergeSort leR_trans leR_total l)
theorem mem_srt {l : List (List Int)} {b : List Int} : b ∈ srt l ↔ b ∈ l := (srt_perm l).mem_iff
def srtI (l : List Int) : List Int := l.mergeSort fun a b => decide (a ≤ b)
theorem sortD_ints (l : List Int) : sortD (l.map PyData.int) = (srtI l).map PyData.int := by
  unfold sortD srtI
  have e := PySem.W.dataLe_int (fun b : Int => b)
  have := PySem.W.sort_maps (r := fun a b : Int => decide (a ≤ b)) (s := ltD) (l := l) (PyData.int : Int → D) fun a _ b _ => by
    have := congrFun (congrFun e a) b
    exact this.symm
  exact this.symm
theorem mem_srtI {l : List Int} {b : Int} : b ∈ srtI l ↔ b ∈ l := (List.mergeSort_perm _ _).mem_iff
/-! ### blocks, opinions -/
def blkOf (bs : List (List Int)) (x : Int) : List Int := (bs.filter fun b => decide (x ∈ b)).headD []
def gw (w : List Rat) (z : Int) : Rat := w.getD z.toNat 0
def ge (ev : List Int) (z : Int) : Int := ev.getD z.toNat 0
def pAll (w : List Rat) (b : List Int) : Rat := qsum (b.map (gw w))
def pEv (w : List Rat) (ev b : List Int) : Rat := qsum ((b.filter fun z => decide (ge ev z = 1)).map (gw w))
def opB (w : List Rat) (ev b : List Int) : Rat := pEv w ev b / pAll w b
def opn (w : List Rat) (bs : List (List Int)) (ev : List Int) (x : Int) : Rat := opB w ev (blkOf bs x)
def ops (w : List Rat) (bs : List (List Int)) (ev : List Int) : List Rat := (List.range w.length).map fun (x : Nat) => opn w bs ev x
structure Prt (m : Nat) (bs : List (List Int)) : Prop where
  ne : ∀ b ∈ bs, b ≠ []
  rng : ∀ b ∈ bs, ∀ z ∈ b, 0 ≤ z ∧ z < m
  cov : ∀ x : Int, 0 ≤ x → x < m → ∃ b ∈ bs, x ∈ b
  dis : bs.Pairwise fun a b => ∀ z ∈ a, z ∉ b
  nd : ∀ b ∈ bs, b.Nodup
section
variable {m : Nat} {bs : List (List Int)} {x : Int}
theorem Prt.one (p : Prt m bs) {a b : List Int} (ha : a ∈ bs) (hb : b ∈ bs) {z : Int} (h1 : z ∈ a) (h2 : z ∈ b) : a = b := by
  have : ∀ {l : List (List Int)}, l.Pairwise (fun a b => ∀ z ∈ a, z ∉ b) → a ∈ l → b ∈ l → a = b := by
    intro l hl
    induction hl with
    | nil => nofun
    | @cons c l hc _ ih =>
      intro m1 m2
      rcases List.mem_cons.mp m1 with e1 | m1'
      · rcases List.mem_cons.mp m2 with e2 | m2'
        · rw [e1, e2]
        · subst e1
          exact absurd h2 (hc b m2' z h1)
      · rcases List.mem_cons.mp m2 with e2 | m2'
        · subst e2
          exact absurd h1 (hc a m1' z h2)
        · exact ih m1' m2'
  exact this p.dis ha hb
theorem Prt.blk (p : Prt m bs) (h0 : 0 ≤ x) (h1 : x < m) : blkOf bs x ∈ bs ∧ x ∈ blkOf bs x := by
  obtain ⟨b, hb, hx⟩ := p.cov x h0 h1
  unfold blkOf
  have hm : b ∈ bs.filter fun b => decide (x ∈ b) := List.mem_filter.mpr ⟨hb, decide_eq_true hx⟩
  cases hf : bs.filter fun b => decide (x ∈ b) with
  | nil => rw [hf] at hm; cases hm
  | cons c r =>
    have : c ∈ bs.filter fun b => decide (x ∈ b) := by rw [hf]; exact List.mem_cons_self
    obtain ⟨h2, h3⟩ := List.mem_filter.mp this
    exact ⟨h2, of_decide_eq_true h3⟩
theorem Prt.blk_eq (p : Prt m bs) {b : List Int} (hb : b ∈ bs) {x : Int} (hx : x ∈ b) : blkOf bs x = b := by
  obtain ⟨h0, h1⟩ := p.rng b hb x hx
  obtain ⟨h2, h3⟩ := p.blk h0 h1
  exact p.one h2 hb h3 hx
/-! ### what is reached -/
/-- a set that no block leaves -/
def Cl (all : List (List Int)) (C : Int → Prop) : Prop := ∀ b ∈ all, (∃ z ∈ b, C z) → ∀ z ∈ b, C z
/-- the component of x -/
def Cmp (all : List (List Int)) (x : Int) (z : Int) : Prop := ∀ C, Cl all C → C x → C z
theorem Cmp.self (all : List (List Int)) (x : Int) : Cmp all x x := fun _ _ h => h
theorem Cmp.cl (all : List (List Int)) (x : Int) : Cl all (Cmp all x) := fun b hb ⟨z, hz, h⟩ y hy C hC hx => hC b hb ⟨z, hz, h C hC hx⟩ y hy
/-- the law's own way -/
def rchB (found b : List Int) : List Int := if b.any (fun z => decide (z ∈ found)) = true then found ++ b.filter (fun z => !decide (z ∈ found)) else found
def rchT (all : List (List Int)) (found : List Int) : List Int := all.foldl rchB found
def rch (all : List (List Int)) (x : Int) : Nat → List Int
  | 0 => [x]
  | n + 1 => rchT all (rch all x n)
theorem rchB_sub {found b : List Int} {z : Int} (h : z ∈ found) : z ∈ rchB found b := by
  unfold rchB
  split
  · exact List.mem_append.mpr (.inl h)
  · exact h
theorem rchB_in {found b : List Int} (h : ∃ z ∈ b, z ∈ found) : ∀ z ∈ b, z ∈ rchB found b := fun z hz => by
  unfold rchB
  rw [if_pos (by rw [List.any_eq_true]; obtain ⟨y, h1, h2⟩ := h; exact ⟨y, h1, decide_eq_true h2⟩)]
  by_cases c : z ∈ found
  · exact List.mem_append.mpr (.inl c)
  · exact List.mem_append.mpr (.inr (List.mem_filter.mpr ⟨hz, by rw [decide_eq_false c]; rfl⟩))
theorem rchB_of {found b : List Int} {z : Int} (h : z ∈ rchB found b) : z ∈ found ∨ (z ∈ b ∧ ∃ y ∈ b, y ∈ found) := by
  unfold rchB at h
  split at h
  · rename_i c
    rcases List.mem_append.mp h with h | h
    · exact .inl h
    · rw [List.any_eq_true] at c
      obtain ⟨y, h1, h2⟩ := c
      exact .inr ⟨(List.mem_filter.mp h).1, y, h1, of_decide_eq_true h2⟩
  · exact .inl h
theorem rchT_sub : ∀ (all : List (List Int)) (found : List Int) (z : Int), z ∈ found → z ∈ rchT all found
  | [], _, _, h => h
  | b :: all, found, z, h => rchT_sub all (rchB found b) z (rchB_sub h)
theorem rchT_in : ∀ (all : List (List Int)) (found : List Int) (b : List Int), b ∈ all → (∃ z ∈ b, z ∈ found) → ∀ z ∈ b, z ∈ rchT all found
  | c :: all, found, b, hb, ⟨y, hy, hf⟩, z, hz => by
    rcases List.mem_cons.mp hb with rfl | hb
    · exact rchT_sub all _ z (rchB_in ⟨y, hy, hf⟩ z hz)
    · exact rchT_in all (rchB found c) b hb ⟨y, hy, rchB_sub hf⟩ z hz
theorem rchT_cmp {all0 : List (List Int)} {x : Int} : ∀ (all : List (List Int)) (found : List Int), (∀ b ∈ all, b ∈ all0) → (∀ z ∈ found, Cmp all0 x z) → ∀ z ∈ rchT all found, Cmp all0 x z
  | [], _, _, h => h
  | b :: all, found, ha, h => rchT_cmp all (rchB found b) (fun c hc => ha c (List.mem_cons_of_mem _ hc)) fun z hz => by
    rcases rchB_of hz with h1 | ⟨h1, y, h2, h3⟩
    · exact h z h1
    · exact Cmp.cl all0 x b (ha b List.mem_cons_self) ⟨y, h2, h y h3⟩ z h1
theorem rch_cmp {all : List (List Int)} {x : Int} : ∀ n, ∀ z ∈ rch all x n, Cmp all x z
  | 0, z, h => by rw [List.mem_singleton.mp h]; exact Cmp.self _ _
  | n + 1, z, h => rchT_cmp all _ (fun _ h => h) (rch_cmp n) z h
/-- the blocks that are within -/
def within (all : List (List Int)) (found : List Int) : Nat := (all.filter fun b => b.all fun z => decide (z ∈ found)).length
theorem filter_mono {α : Type} {p q : α → Bool} : ∀ (l : List α), (∀ x ∈ l, p x = true → q x = true) → (l.filter p).length ≤ (l.filter q).length
  | [], _ => Nat.le_refl _
  | x :: l, h => by
    have ih := filter_mono l fun y hy => h y (List.mem_cons_of_mem _ hy)
    have h0 := h x List.mem_cons_self
    rw [List.filter_cons, List.filter_cons]
    cases hp : p x with
    | false =>
      rw [if_neg Bool.false_ne_true]
      split
      · rw [List.length_cons]; omega
      · exact ih
    | true =>
      rw [h0 hp, if_pos rfl, if_pos rfl, List.length_cons, List.length_cons]
      omega
theorem filter_lt {α : Type} {p q : α → Bool} : ∀ (l : List α), (∀ x ∈ l, p x = true → q x = true) → (∃ x ∈ l, p x = false ∧ q x = true) → (l.filter p).length < (l.filter q).length
  | x :: l, h, ⟨y, hy, h1, h2⟩ => by
    have h0 := h x List.mem_cons_self
    have hm := fun y hy => h y (List.mem_cons_of_mem x hy)
    rw [List.filter_cons, List.filter_cons]
    rcases List.mem_cons.mp hy with rfl | hy
    · rw [h1, h2, if_neg Bool.false_ne_true, if_pos rfl, List.length_cons]
      have := filter_mono l hm
      omega
    · have ih := filter_lt l hm ⟨y, hy, h1, h2⟩
      cases hp : p x with
      | false =>
        rw [if_neg Bool.false_ne_true]
        split
        · rw [List.length_cons]; omega
        · exact ih
      | true =>
        rw [h0 hp, if_pos rfl, if_pos rfl, List.length_cons, List.length_cons]
        omega
/-- closed, or many blocks within -/
theorem rch_grow {all : List (List Int)} {x : Int} : ∀ n, Cl all (fun z => z ∈ rch all x n) ∨ n ≤ within all (rch all x n)
  | 0 => .inr (Nat.zero_le _)
  | n + 1 => by
    have sub : ∀ z, z ∈ rch all x n → z ∈ rch all x (n + 1) := fun z h => rchT_sub all _ z h
    by_cases hc : Cl all (fun z => z ∈ rch all x n)
    · refine .inl fun b hb ⟨z, hz, h⟩ y hy => ?_
      have same : ∀ (al : List (List Int)) (found : List Int), (∀ b ∈ al, b ∈ all) → Cl all (fun z => z ∈ found) → rchT al found = found := by
        intro al
        induction al with
        | nil => intro found _ _; rfl
        | cons c al ih =>
          intro found ha hcl
          have e : rchB found c = found := by
            unfold rchB
            split
            · rename_i hany
              rw [List.any_eq_true] at hany
              obtain ⟨u, h1, h2⟩ := hany
              have hall := hcl c (ha c List.mem_cons_self) ⟨u, h1, of_decide_eq_true h2⟩
              rw [List.filter_eq_nil_iff.mpr fun v hv => by simp [hall v hv], List.append_nil]
            · rfl
          show rchT al (rchB found c) = found
          rw [e]
          exact ih found (fun b hb => ha b (List.mem_cons_of_mem _ hb)) hcl
      have e : rch all x (n + 1) = rch all x n := same all _ (fun _ h => h) hc
      rw [e] at h ⊢
      exact hc b hb ⟨z, hz, h⟩ y hy
    · right
      rcases rch_grow (all := all) (x := x) n with h | h
      · exact absurd h hc
      · have : ∃ b ∈ all, (∃ z ∈ b, z ∈ rch all x n) ∧ ∃ z ∈ b, z ∉ rch all x n := by
          refine Classical.byContradiction fun hno => hc fun b hb ⟨z, hz, h1⟩ y hy => Classical.byContradiction fun h2 => hno ⟨b, hb, ⟨z, hz, h1⟩, y, hy, h2⟩
        obtain ⟨b, hb, h1, y, hy, h2⟩ := this
        have lt := filter_lt (p := fun b => b.all fun z => decide (z ∈ rch all x n)) (q := fun b => b.all fun z => decide (z ∈ rch all x (n + 1))) all (fun c _ hcp => by
          rw [List.all_eq_true] at hcp ⊢
          exact fun z hz => decide_eq_true (sub z (of_decide_eq_true (hcp z hz)))) ⟨b, hb, by
            rw [List.all_eq_false]
            exact ⟨y, hy, by simpa using h2⟩, by
            rw [List.all_eq_true]
            exact fun z hz => decide_eq_true (rchT_in all _ b hb h1 z hz)⟩
        show n + 1 ≤ within _ _
        unfold within at h ⊢
        omega
theorem rch_is {all : List (List Int)} {x : Int} (n : Nat) (hn : all.length < n) (z : Int) : z ∈ rch all x n ↔ Cmp all x z := by
  refine ⟨rch_cmp n z, fun h => ?_⟩
  rcases rch_grow (all := all) (x := x) n with hc | hc
  · have hx : x ∈ rch all x n := by
      clear hc hn h
      induction n with
      | zero => exact List.mem_singleton.mpr rfl
      | succ n ih => exact rchT_sub all _ x ih
    exact h _ hc hx
  · unfold within at hc
    have := List.length_filter_le (fun b => b.all fun z => decide (z ∈ rch all x n)) all
    omega
/-! the program's own way -/
def hits (b part : List Int) : Bool := part.any fun x => decide (x ∈ b)
def comS (found : List (List Int)) (b : List Int) : List (List Int) := found.filter (fun p => !hits b p) ++ [srtI (found.filter (hits b)).flatten]
def com (m : Nat) (all : List (List Int)) : List (List Int) := srt (all.foldl comS ((List.range m).map fun (x : Nat) => [(x : Int)]))
theorem hits_iff {b part : List Int} : hits b part = true ↔ ∃ x ∈ part, x ∈ b := by
  unfold hits
  rw [List.any_eq_true]
  exact ⟨fun ⟨x, h1, h2⟩ => ⟨x, h1, of_decide_eq_true h2⟩, fun ⟨x, h1, h2⟩ => ⟨x, h1, decide_eq_true h2⟩⟩
/-- what holds of the parts: disjoint, all there; each within every closed set that it meets; the blocks done are within parts -/
structure Com (m : Nat) (all done : List (List Int)) (f : List (List Int)) : Prop where
  rng : ∀ b ∈ f, ∀ z ∈ b, 0 ≤ z ∧ z < m
  cov : ∀ x : Int, 0 ≤ x → x < m → ∃ b ∈ f, x ∈ b
  dis : f.Pairwise fun a b => ∀ z ∈ a, z ∉ b
  nd : ∀ b ∈ f, b.Nodup
  clo : ∀ p ∈ f, ∀ C, Cl all C → (∃ z ∈ p, C z) → ∀ z ∈ p, C z
  blk : ∀ b ∈ done, ∃ p ∈ f, ∀ z ∈ b, z ∈ p
  ne : ∀ b ∈ f, b ≠ []
theorem pw_mem {l : List (List Int)} {R : List Int → List Int → Prop} (h : l.Pairwise R) (hs : ∀ a b, R a b → R b a) {a b : List Int} (ha : a ∈ l) (hb : b ∈ l) (hne : a ≠ b) : R a b := by
  induction h with
  | nil => cases ha
  | @cons c l hc _ ih =>
    rcases List.mem_cons.mp ha with e1 | ha'
    · rcases List.mem_cons.mp hb with e2 | hb'
      · exact absurd (e1.trans e2.symm) hne
      · rw [e1]
        exact hc b hb'
    · rcases List.mem_cons.mp hb with e2 | hb'
      · rw [e2]
        exact hs _ _ (hc a ha')
      · exact ih ha' hb'
theorem flatten_nodup : ∀ {l : List (List Int)}, l.Pairwise (fun a b => ∀ z ∈ a, z ∉ b) → (∀ b ∈ l, b.Nodup) → l.flatten.Nodup
  | [], _, _ => List.nodup_nil
  | b :: l, h, hn => by
    rw [List.flatten_cons, List.nodup_append]
    refine ⟨hn b List.mem_cons_self, flatten_nodup (List.pairwise_cons.mp h).2 fun c hc => hn c (List.mem_cons_of_mem _ hc), fun x hx y hy e => ?_⟩
    subst e
    obtain ⟨c, hc, hxc⟩ := List.mem_flatten.mp hy
    exact (List.pairwise_cons.mp h).1 c hc x hx hxc
theorem Com.step {all done f : List (List Int)} {b : List Int} (h : Com m all done f) (hb : b ∈ all) (hne : b ≠ []) (hr : ∀ z ∈ b, 0 ≤ z ∧ z < m) : Com m all (done ++ [b]) (comS f b) := by
  have hj : ∀ z, z ∈ srtI (f.filter (hits b)).flatten ↔ ∃ p ∈ f, hits b p = true ∧ z ∈ p := fun z => by
    rw [mem_srtI, List.mem_flatten]
    exact ⟨fun ⟨p, h1, h2⟩ => ⟨p, (List.mem_filter.mp h1).1, (List.mem_filter.mp h1).2, h2⟩, fun ⟨p, h1, h2, h3⟩ => ⟨p, List.mem_filter.mpr ⟨h1, h2⟩, h3⟩⟩
  have hin : ∀ z ∈ b, z ∈ srtI (f.filter (hits b)).flatten := fun z hz => by
    obtain ⟨p, hp, hzp⟩ := h.cov z (hr z hz).1 (hr z hz).2
    exact (hj z).mpr ⟨p, hp, hits_iff.mpr ⟨z, hzp, hz⟩, hzp⟩
  have mem : ∀ p, p ∈ comS f b ↔ (p ∈ f ∧ hits b p = false) ∨ p = srtI (f.filter (hits b)).flatten := fun p => by
    unfold comS
    rw [List.mem_append, List.mem_filter, List.mem_singleton]
    simp
  refine ⟨fun p hp z hz => ?_, fun x h0 h1 => ?_, ?_, fun p hp => ?_, fun p hp C hC hm => ?_, fun c hc => ?_, fun p hp => ?_⟩
  · rcases (mem p).mp hp with ⟨h1, _⟩ | rfl
    · exact h.rng p h1 z hz
    · obtain ⟨q, h1, _, h2⟩ := (hj z).mp hz
      exact h.rng q h1 z h2
  · obtain ⟨p, hp, hxp⟩ := h.cov x h0 h1
    cases hh : hits b p with
    | false => exact ⟨p, (mem p).mpr (.inl ⟨hp, hh⟩), hxp⟩
    | true => exact ⟨_, (mem _).mpr (.inr rfl), (hj x).mpr ⟨p, hp, hh, hxp⟩⟩
  · unfold comS
    rw [List.pairwise_append]
    refine ⟨h.dis.filter _, List.pairwise_singleton .., fun p hp q hq z hz hzq => ?_⟩
    rw [List.mem_singleton] at hq
    subst hq
    obtain ⟨h1, h2⟩ := List.mem_filter.mp hp
    obtain ⟨r, h3, h4, h5⟩ := (hj z).mp hzq
    by_cases e : p = r
    · subst e
      rw [h4] at h2
      cases h2
    · exact pw_mem h.dis (fun a b hab z hzb hza => hab z hza hzb) h1 h3 e z hz h5
  · rcases (mem p).mp hp with ⟨h1, _⟩ | rfl
    · exact h.nd p h1
    · exact (List.mergeSort_perm _ _).nodup_iff.mpr (flatten_nodup (h.dis.filter _) fun c hc => h.nd c (List.mem_filter.mp hc).1)
  · rcases (mem p).mp hp with ⟨h1, _⟩ | rfl
    · exact h.clo p h1 C hC hm
    · obtain ⟨z, hz, hCz⟩ := hm
      obtain ⟨q, h1, h2, h3⟩ := (hj z).mp hz
      obtain ⟨y, hy, hyb⟩ := hits_iff.mp h2
      have hCy := h.clo q h1 C hC ⟨z, h3, hCz⟩ y hy
      have hCb := hC b hb ⟨y, hyb, hCy⟩
      intro u hu
      obtain ⟨r, h4, h5, h6⟩ := (hj u).mp hu
      obtain ⟨v, hv, hvb⟩ := hits_iff.mp h5
      exact h.clo r h4 C hC ⟨v, hv, hCb v hvb⟩ u h6
  · rcases List.mem_append.mp hc with hc | hc
    · obtain ⟨p, hp, hcp⟩ := h.blk c hc
      cases hh : hits b p with
      | false => exact ⟨p, (mem p).mpr (.inl ⟨hp, hh⟩), hcp⟩
      | true => exact ⟨_, (mem _).mpr (.inr rfl), fun z hz => (hj z).mpr ⟨p, hp, hh, hcp z hz⟩⟩
    · rw [List.mem_singleton] at hc
      subst hc
      exact ⟨_, (mem _).mpr (.inr rfl), hin⟩
  · rcases (mem p).mp hp with ⟨h1, _⟩ | rfl
    · exact h.ne p h1
    · intro e
      cases b with
      | nil => exact hne rfl
      | cons z b =>
        have := hin z List.mem_cons_self
        rw [e] at this
        cases this
theorem com_all {all : List (List Int)} (hne : ∀ b ∈ all, b ≠ []) (hr : ∀ b ∈ all, ∀ z ∈ b, 0 ≤ z ∧ z < (m : Int)) : Com m all all (all.foldl comS ((List.range m).map fun (x : Nat) => [(x : Int)])) := by
  have key : ∀ (rest done : List (List Int)) (f : List (List Int)), all = done ++ rest → Com m all done f → Com m all all (rest.foldl comS f) := by
    intro rest
    induction rest with
    | nil =>
      intro done f e h
      rw [List.append_nil] at e
      rw [← e] at h
      exact h
    | cons b rest ih =>
      intro done f e h
      have hb : b ∈ all := by rw [e]; simp
      exact ih (done ++ [b]) _ (by rw [e]; simp) (h.step hb (hne b hb) (hr b hb))
  refine key all [] _ rfl ⟨fun b hb z hz => ?_, fun x h0 h1 => ?_, ?_, fun b hb => ?_, fun p hp C hC ⟨z, hz, h⟩ y hy => ?_, nofun, fun b hb => ?_⟩
  · obtain ⟨x, hx, rfl⟩ := List.mem_map.mp hb
    rw [List.mem_singleton.mp hz]
    have := List.mem_range.mp hx
    omega
  · exact ⟨[x], List.mem_map.mpr ⟨x.toNat, List.mem_range.mpr (by omega), by congr 1; omega⟩, List.mem_singleton.mpr rfl⟩
  · rw [List.pairwise_map]
    refine List.Pairwise.imp (fun {a b} hab z hz hz2 => ?_) List.nodup_range
    rw [List.mem_singleton] at hz hz2
    exact hab (by omega)
  · obtain ⟨x, hx, rfl⟩ := List.mem_map.mp hb
    simp
  · obtain ⟨x, hx, rfl⟩ := List.mem_map.mp hp
    rw [List.mem_singleton] at hz hy
    rw [hy, ← hz]
    exact h
  · obtain ⟨x, hx, rfl⟩ := List.mem_map.mp hb
    nofun
theorem com_prt {all : List (List Int)} (hne : ∀ b ∈ all, b ≠ []) (hr : ∀ b ∈ all, ∀ z ∈ b, 0 ≤ z ∧ z < (m : Int)) : Prt m (com m all) := by
  have h := com_all hne hr
  exact ⟨fun b hb => h.ne b (mem_srt.mp hb), fun b hb => h.rng b (mem_srt.mp hb), fun x h0 h1 => let ⟨b, hb, hx⟩ := h.cov x h0 h1; ⟨b, mem_srt.mpr hb, hx⟩,
    (srt_perm _).symm.pairwise h.dis (fun {a b} hab z hz hz2 => hab z hz2 hz), fun b hb => h.nd b (mem_srt.mp hb)⟩
theorem com_is {all : List (List Int)} (hne : ∀ b ∈ all, b ≠ []) (hr : ∀ b ∈ all, ∀ z ∈ b, 0 ≤ z ∧ z < (m : Int)) (h0 : 0 ≤ x) (h1 : x < m) (z : Int) : z ∈ blkOf (com m all) x ↔ Cmp all x z := by
  have h := com_all hne hr
  have p := com_prt hne hr
  obtain ⟨hb, hx⟩ := p.blk h0 h1
  have hb := mem_srt.mp hb
  constructor
  · intro hz C hC hCx
    exact h.clo _ hb C hC ⟨x, hx, hCx⟩ z hz
  · intro hz
    refine hz (fun z => z ∈ blkOf (com m all) x) (fun b hball ⟨u, hu, huP⟩ y hy => ?_) hx
    obtain ⟨q, hq, hsub⟩ := h.blk b hball
    have : blkOf (com m all) x = q := p.one (mem_srt.mpr hb) (mem_srt.mpr hq) huP (hsub u hu)
    rw [this]
    exact hsub y hy
end
end DL

set_option Elab.async false
set_option linter.all false
set_option maxRecDepth 100000
set_option maxHeartbeats 4000000
namespace DL
open PySem PySem.Spec PyProof.Rows L2
/-! ### parting -/
def firsts (f : Int → Rat) (b : List Int) : List Rat := b.foldl (fun vs x => if f x ∈ vs then vs else vs ++ [f x]) []
def prtB (f : Int → Rat) (b : List Int) : List (List Int) := (firsts f b).map fun v => b.filter fun x => decide (f x = v)
def prtL (f : Int → Rat) (bs : List (List Int)) : List (List Int) := bs.flatMap (prtB f)
def prt (f : Int → Rat) (bs : List (List Int)) : List (List Int) := srt (prtL f bs)
theorem firsts_snoc (f : Int → Rat) (b : List Int) (x : Int) : firsts f (b ++ [x]) = if f x ∈ firsts f b then firsts f b else firsts f b ++ [f x] := by
  unfold firsts
  rw [List.foldl_append]
  rfl
theorem firsts_ind (f : Int → Rat) (b : List Int) : (∀ v, v ∈ firsts f b ↔ ∃ x ∈ b, f x = v) ∧ (firsts f b).Nodup := by
  refine snoc_ind (M := fun b => (∀ v, v ∈ firsts f b ↔ ∃ x ∈ b, f x = v) ∧ (firsts f b).Nodup) ?_ ?_ b
  · exact ⟨fun v => by simp [firsts], List.nodup_nil⟩
  · intro b x ⟨h1, h2⟩
    rw [firsts_snoc]
    split
    · rename_i c
      refine ⟨fun v => ?_, h2⟩
      rw [h1 v]
      constructor
      · rintro ⟨y, h3, h4⟩
        exact ⟨y, List.mem_append.mpr (.inl h3), h4⟩
      · rintro ⟨y, h3, h4⟩
        rcases List.mem_append.mp h3 with h3 | h3
        · exact ⟨y, h3, h4⟩
        · rw [List.mem_singleton] at h3
          subst h3
          rw [← h4]
          exact (h1 _).mp c
    · rename_i c
      refine ⟨fun v => ?_, ?_⟩
      · rw [List.mem_append, List.mem_singleton, h1 v]
        constructor
        · rintro (⟨y, h3, h4⟩ | h3)
          · exact ⟨y, List.mem_append.mpr (.inl h3), h4⟩
          · exact ⟨x, by simp, h3.symm⟩
        · rintro ⟨y, h3, h4⟩
          rcases List.mem_append.mp h3 with h3 | h3
          · exact .inl ⟨y, h3, h4⟩
          · rw [List.mem_singleton] at h3
            subst h3
            exact .inr h4.symm
      · rw [List.nodup_append]
        refine ⟨h2, by simp, fun a ha y hy e => ?_⟩
        rw [List.mem_singleton] at hy
        exact c (by rw [← hy, ← e]; exact ha)
theorem firsts_mem {f : Int → Rat} {b : List Int} {v : Rat} : v ∈ firsts f b ↔ ∃ x ∈ b, f x = v := (firsts_ind f b).1 v
theorem firsts_nodup (f : Int → Rat) (b : List Int) : (firsts f b).Nodup := (firsts_ind f b).2
theorem prtB_mem {f : Int → Rat} {b p : List Int} : p ∈ prtB f b ↔ ∃ y ∈ b, p = b.filter fun x => decide (f x = f y) := by
  unfold prtB
  rw [List.mem_map]
  constructor
  · rintro ⟨v, h1, rfl⟩
    obtain ⟨y, h2, rfl⟩ := firsts_mem.mp h1
    exact ⟨y, h2, rfl⟩
  · rintro ⟨y, h1, rfl⟩
    exact ⟨f y, firsts_mem.mpr ⟨y, h1, rfl⟩, rfl⟩
theorem prtB_sub {f : Int → Rat} {b p : List Int} (h : p ∈ prtB f b) {z : Int} (hz : z ∈ p) : z ∈ b := by
  obtain ⟨y, _, rfl⟩ := prtB_mem.mp h
  exact (List.mem_filter.mp hz).1
theorem prtB_len {f : Int → Rat} {b : List Int} (h : b ≠ []) : 1 ≤ (prtB f b).length := by
  cases b with
  | nil => exact absurd rfl h
  | cons x b =>
    have : (prtB f (x :: b)) ≠ [] := fun e => by
      have := prtB_mem (f := f) (b := x :: b) (p := (x :: b).filter fun z => decide (f z = f x)) |>.mpr ⟨x, List.mem_cons_self, rfl⟩
      rw [e] at this
      cases this
    cases h2 : prtB f (x :: b) with
    | nil => exact absurd h2 this
    | cons => rw [List.length_cons]; omega
theorem prtB_const {f : Int → Rat} {b : List Int} (h : b ≠ []) (hc : ∀ x ∈ b, ∀ y ∈ b, f x = f y) : prtB f b = [b] := by
  cases b with
  | nil => exact absurd rfl h
  | cons x b =>
    have e : firsts f (x :: b) = [f x] := by
      refine snoc_ind (M := fun l => (∀ y ∈ l, f y = f x) → firsts f (x :: l) = [f x]) (fun _ => rfl) (fun l y ih hy => ?_) b fun y hy => hc y (List.mem_cons_of_mem _ hy) x List.mem_cons_self
      rw [← List.cons_append, firsts_snoc, ih fun z hz => hy z (List.mem_append.mpr (.inl hz)), if_pos]
      rw [List.mem_singleton]
      exact hy y (by simp)
    unfold prtB
    rw [e, List.map_cons, List.map_nil, List.filter_eq_self.mpr]
    exact fun y hy => decide_eq_true (hc y hy x List.mem_cons_self)
theorem prtB_one {f : Int → Rat} {b : List Int} (hl : (prtB f b).length ≤ 1) : ∀ x ∈ b, ∀ y ∈ b, f x = f y := fun x hx y hy => by
  have h1 := firsts_mem (f := f).mpr ⟨x, hx, rfl⟩
  have h2 := firsts_mem (f := f).mpr ⟨y, hy, rfl⟩
  unfold prtB at hl
  rw [List.length_map] at hl
  match e : firsts f b with
  | [] => rw [e] at h1; cases h1
  | [v] =>
    rw [e, List.mem_singleton] at h1 h2
    rw [h1, h2]
  | _ :: _ :: _ => rw [e] at hl; simp at hl
section
variable {m : Nat} {bs : List (List Int)} {f : Int → Rat}
theorem Prt.parted (p : Prt m bs) (f : Int → Rat) : Prt m (prt f bs) := by
  have mem : ∀ q, q ∈ prt f bs ↔ ∃ b ∈ bs, q ∈ prtB f b := fun q => by
    unfold prt prtL
    rw [mem_srt, List.mem_flatMap]
  refine ⟨fun q hq => ?_, fun q hq z hz => ?_, fun x h0 h1 => ?_, ?_, fun q hq => ?_⟩
  · obtain ⟨b, hb, h⟩ := (mem q).mp hq
    obtain ⟨y, hy, rfl⟩ := prtB_mem.mp h
    intro e
    have : y ∈ b.filter fun x => decide (f x = f y) := List.mem_filter.mpr ⟨hy, decide_eq_true rfl⟩
    rw [e] at this
    cases this
  · obtain ⟨b, hb, h⟩ := (mem q).mp hq
    exact p.rng b hb z (prtB_sub h hz)
  · obtain ⟨b, hb, hx⟩ := p.cov x h0 h1
    exact ⟨_, (mem _).mpr ⟨b, hb, prtB_mem.mpr ⟨x, hx, rfl⟩⟩, List.mem_filter.mpr ⟨hx, decide_eq_true rfl⟩⟩
  · unfold prt
    refine (srt_perm _).symm.pairwise ?_ (fun {a b} hab z hz hz2 => hab z hz2 hz)
    unfold prtL
    have hd := p.dis
    clear mem p
    induction hd with
    | nil => exact List.Pairwise.nil
    | @cons c l hc _ ih =>
      rw [List.flatMap_cons, List.pairwise_append]
      refine ⟨?_, ih, fun q hq r hr z hz hz2 => ?_⟩
      · unfold prtB
        rw [List.pairwise_map]
        refine List.Pairwise.imp (fun {a b} hab z hz hz2 => ?_) (firsts_nodup f c)
        exact hab ((of_decide_eq_true (List.mem_filter.mp hz).2).symm.trans (of_decide_eq_true (List.mem_filter.mp hz2).2))
      · obtain ⟨b, hb, hrb⟩ := List.mem_flatMap.mp hr
        exact hc b hb z (prtB_sub hq hz) (prtB_sub hrb hz2)
  · obtain ⟨b, hb, h⟩ := (mem q).mp hq
    obtain ⟨y, _, rfl⟩ := prtB_mem.mp h
    exact (p.nd b hb).filter _
theorem prt_len (h : ∀ b ∈ bs, b ≠ []) : bs.length ≤ (prt f bs).length ∧ ((prt f bs).length ≤ bs.length → (∀ b ∈ bs, ∀ x ∈ b, ∀ y ∈ b, f x = f y) ∧ prtL f bs = bs) := by
  have el : (prt f bs).length = (prtL f bs).length := (srt_perm _).length_eq
  rw [el]
  unfold prtL
  clear el
  induction bs with
  | nil => exact ⟨Nat.le_refl _, fun _ => ⟨nofun, rfl⟩⟩
  | cons b bs ih =>
    obtain ⟨h1, h2⟩ := ih fun c hc => h c (List.mem_cons_of_mem _ hc)
    have h3 := prtB_len (f := f) (h b List.mem_cons_self)
    rw [List.flatMap_cons, List.length_append, List.length_cons]
    refine ⟨by omega, fun hle => ?_⟩
    have hone := prtB_one (f := f) (b := b) (by omega)
    obtain ⟨h4, h5⟩ := h2 (by omega)
    refine ⟨fun c hc => ?_, ?_⟩
    · rcases List.mem_cons.mp hc with rfl | hc
      · exact hone
      · exact h4 c hc
    · rw [prtB_const (h b List.mem_cons_self) hone, h5]
      rfl
theorem prt_const (h : ∀ b ∈ bs, b ≠ []) (hs : prt f bs = bs) : ∀ b ∈ bs, ∀ x ∈ b, ∀ y ∈ b, f x = f y := ((prt_len (f := f) h).2 (by rw [hs]; exact Nat.le_refl _)).1
/-! ### the items of the blocks -/
def zs (m : Nat) : List Int := (List.range m).map fun (x : Nat) => (x : Int)
theorem zs_nodup (m : Nat) : (zs m).Nodup := by
  unfold zs
  refine (List.pairwise_map).mpr (List.Pairwise.imp (fun {a b} h e => h (by omega)) List.nodup_range)
theorem mem_zs {z : Int} : z ∈ zs m ↔ 0 ≤ z ∧ z < m := by
  unfold zs
  rw [List.mem_map]
  constructor
  · rintro ⟨x, h, rfl⟩
    have := List.mem_range.mp h
    omega
  · intro ⟨h0, h1⟩
    exact ⟨z.toNat, List.mem_range.mpr (by omega), by omega⟩
theorem Prt.perm (p : Prt m bs) : bs.flatten.Perm (zs m) := by
  rw [List.perm_ext_iff_of_nodup (flatten_nodup p.dis p.nd) (zs_nodup m)]
  intro z
  rw [List.mem_flatten, mem_zs]
  constructor
  · rintro ⟨b, hb, hz⟩
    exact p.rng b hb z hz
  · rintro ⟨h0, h1⟩
    exact p.cov z h0 h1
theorem Prt.sum (p : Prt m bs) : (bs.map fun b => (b.length : Int)).sum = m := by
  have h := p.perm.length_eq
  have : (zs m).length = m := by unfold zs; rw [List.length_map, List.length_range]
  rw [this] at h
  rw [← h]
  clear h this p
  induction bs with
  | nil => rfl
  | cons b bs ih =>
    rw [List.map_cons, List.sum_cons, ih, List.flatten_cons, List.length_append]
    omega
theorem Prt.len (p : Prt m bs) : bs.length ≤ m := by
  have h := p.perm.length_eq
  have : (zs m).length = m := by unfold zs; rw [List.length_map, List.length_range]
  rw [this] at h
  rw [← h]
  have hne := p.ne
  clear h this p
  induction bs with
  | nil => exact Nat.zero_le _
  | cons b bs ih =>
    have := ih fun c hc => hne c (List.mem_cons_of_mem _ hc)
    have h1 := List.length_pos_iff.mpr (hne b List.mem_cons_self)
    rw [List.flatten_cons, List.length_append, List.length_cons]
    omega
theorem Prt.blen (p : Prt m bs) {b : List Int} (hb : b ∈ bs) : b.length ≤ m := by
  have h := p.perm.length_eq
  have : (zs m).length = m := by unfold zs; rw [List.length_map, List.length_range]
  rw [this] at h
  rw [← h]
  clear h this p
  induction bs with
  | nil => cases hb
  | cons c bs ih =>
    rw [List.flatten_cons, List.length_append]
    rcases List.mem_cons.mp hb with rfl | hb
    · omega
    · have := ih hb
      omega
/-! ### Aumann -/
theorem qsum_perm {a b : List Rat} (h : a.Perm b) : qsum a = qsum b := by
  induction h with
  | nil => rfl
  | cons x _ ih => rw [qsum_cons, qsum_cons, ih]
  | swap x y l => simp only [qsum_cons]; grind
  | trans _ _ h1 h2 => rw [h1, h2]
theorem pAll_perm {w : List Rat} {a b : List Int} (h : a.Perm b) : pAll w a = pAll w b := qsum_perm (h.map _)
theorem pEv_perm {w : List Rat} {ev a b : List Int} (h : a.Perm b) : pEv w ev a = pEv w ev b := qsum_perm ((h.filter _).map _)
theorem pAll_append {w : List Rat} (a b : List Int) : pAll w (a ++ b) = pAll w a + pAll w b := by
  unfold pAll
  rw [List.map_append, qsum_append]
theorem pEv_append {w : List Rat} {ev : List Int} (a b : List Int) : pEv w ev (a ++ b) = pEv w ev a + pEv w ev b := by
  unfold pEv
  rw [List.filter_append, List.map_append, qsum_append]
theorem pAll_nn {w : List Rat} {b : List Int} (h : ∀ z ∈ b, 0 < gw w z) : 0 ≤ pAll w b := by
  unfold pAll
  induction b with
  | nil => exact Rat.le_refl
  | cons x b ih =>
    rw [List.map_cons, qsum_cons]
    have h1 := h x List.mem_cons_self
    have h2 := ih fun z hz => h z (List.mem_cons_of_mem _ hz)
    grind
theorem pAll_pos {w : List Rat} {b : List Int} (hb : b ≠ []) (h : ∀ z ∈ b, 0 < gw w z) : 0 < pAll w b := by
  cases b with
  | nil => exact absurd rfl hb
  | cons x b =>
    have h1 := h x List.mem_cons_self
    have h2 := pAll_nn (w := w) (b := b) fun z hz => h z (List.mem_cons_of_mem _ hz)
    have : pAll w (x :: b) = gw w x + pAll w b := rfl
    grind
theorem aum {w : List Rat} {ev S : List Int} {v : Rat} (p : Prt m bs) (hw : ∀ z : Int, 0 ≤ z → z < m → 0 < gw w z) (hn : S.Nodup) (hr : ∀ z ∈ S, 0 ≤ z ∧ z < m) (hc : ∀ b ∈ bs, (∃ z ∈ b, z ∈ S) → ∀ z ∈ b, z ∈ S)
    (hv : ∀ z ∈ S, opn w bs ev z = v) : pEv w ev S = v * pAll w S := by
  have pm : (bs.filter (hits S)).flatten.Perm S := by
    rw [List.perm_ext_iff_of_nodup (flatten_nodup (p.dis.filter _) fun c hc => p.nd c (List.mem_filter.mp hc).1) hn]
    intro z
    rw [List.mem_flatten]
    constructor
    · rintro ⟨b, hb, hz⟩
      obtain ⟨h1, h2⟩ := List.mem_filter.mp hb
      obtain ⟨y, h3, h4⟩ := hits_iff.mp h2
      exact hc b h1 ⟨y, h3, h4⟩ z hz
    · intro hz
      obtain ⟨h0, h1⟩ := hr z hz
      obtain ⟨b, hb, hzb⟩ := p.cov z h0 h1
      exact ⟨b, List.mem_filter.mpr ⟨hb, hits_iff.mpr ⟨z, hzb, hz⟩⟩, hzb⟩
  rw [← pEv_perm pm, ← pAll_perm pm]
  have hb : ∀ b ∈ bs.filter (hits S), pEv w ev b = v * pAll w b := fun b hb => by
    obtain ⟨h1, h2⟩ := List.mem_filter.mp hb
    obtain ⟨y, h3, h4⟩ := hits_iff.mp h2
    have e := hv y h4
    unfold opn opB at e
    rw [p.blk_eq h1 h3] at e
    have pos := pAll_pos (w := w) (p.ne b h1) fun z hz => hw z (p.rng b h1 z hz).1 (p.rng b h1 z hz).2
    have nz : pAll w b ≠ 0 := by grind
    rw [← e, Rat.div_mul_cancel nz]
  generalize bs.filter (hits S) = l at hb
  clear pm
  induction l with
  | nil => show (0 : Rat) = v * 0; grind
  | cons b l ih =>
    rw [List.flatten_cons, pEv_append, pAll_append, hb b List.mem_cons_self, ih fun c hc => hb c (List.mem_cons_of_mem _ hc)]
    grind
/-- opinions that are both known by both are one -/
theorem aumann {w : List Rat} {ev : List Int} {a b : List (List Int)} (pa : Prt m a) (pb : Prt m b) (hw : ∀ z : Int, 0 ≤ z → z < m → 0 < gw w z) {x : Int} (h0 : 0 ≤ x) (h1 : x < m)
    {u v : Rat} (hu : ∀ z : Int, 0 ≤ z → z < m → Cmp (a ++ b) x z → opn w a ev z = u) (hv : ∀ z : Int, 0 ≤ z → z < m → Cmp (a ++ b) x z → opn w b ev z = v) : u = v := by
  have hne : ∀ c ∈ a ++ b, c ≠ [] := fun c hc => (List.mem_append.mp hc).elim (pa.ne c) (pb.ne c)
  have hr : ∀ c ∈ a ++ b, ∀ z ∈ c, 0 ≤ z ∧ z < (m : Int) := fun c hc => (List.mem_append.mp hc).elim (pa.rng c) (pb.rng c)
  have hp := com_prt hne hr
  have hi := com_is hne hr h0 h1
  obtain ⟨hb, hx⟩ := hp.blk h0 h1
  generalize blkOf (com m (a ++ b)) x = S at *
  have cl := Cmp.cl (a ++ b) x
  have r1 := aum (w := w) (ev := ev) (S := S) (v := u) pa hw (hp.nd _ hb) (hp.rng _ hb) (fun c hc ⟨z, hz, hzS⟩ y hy => (hi y).mpr (cl c (List.mem_append.mpr (.inl hc)) ⟨z, hz, (hi z).mp hzS⟩ y hy)) fun z hz => hu z (hp.rng _ hb z hz).1 (hp.rng _ hb z hz).2 ((hi z).mp hz)
  have r2 := aum (w := w) (ev := ev) (S := S) (v := v) pb hw (hp.nd _ hb) (hp.rng _ hb) (fun c hc ⟨z, hz, hzS⟩ y hy => (hi y).mpr (cl c (List.mem_append.mpr (.inr hc)) ⟨z, hz, (hi z).mp hzS⟩ y hy)) fun z hz => hv z (hp.rng _ hb z hz).1 (hp.rng _ hb z hz).2 ((hi z).mp hz)
  have pos := pAll_pos (w := w) (hp.ne _ hb) fun z hz => hw z (hp.rng _ hb z hz).1 (hp.rng _ hb z hz).2
  have nz : pAll w S ≠ 0 := by grind
  have e : u * pAll w S = v * pAll w S := r1.symm.trans r2
  calc u = u * pAll w S / pAll w S := (Rat.mul_div_cancel nz).symm
    _ = v * pAll w S / pAll w S := by rw [e]
    _ = v := Rat.mul_div_cancel nz
end
/-! ### the talk -/
abbrev Bs := List (List Int)
def step (w : List Rat) (ev : List Int) (s : Bs × Bs) : Bs × Bs := (prt (gw (ops w s.2 ev)) s.1, prt (gw (ops w s.1 ev)) s.2)
def itr (w : List Rat) (ev : List Int) (s : Bs × Bs) : Nat → Bs × Bs
  | 0 => s
  | n + 1 => step w ev (itr w ev s n)
def its (w : List Rat) (ev : List Int) (s : Bs × Bs) (n : Nat) : List (Bs × Bs) := (List.range n).map (itr w ev s) ++ [itr w ev s n]
theorem its_snoc (w : List Rat) (ev : List Int) (s : Bs × Bs) (n : Nat) : its w ev s (n + 1) = its w ev s n ++ [step w ev (itr w ev s n)] := by
  unfold its
  rw [List.range_succ, List.map_append]
  rfl
structure Tst (m : Nat) (s : Bs × Bs) : Prop where
  p1 : Prt m s.1
  p2 : Prt m s.2
  s1 : srt s.1 = s.1
  s2 : srt s.2 = s.2
section
variable {m : Nat} {w : List Rat} {ev : List Int} {s : Bs × Bs}
theorem Tst.step (h : Tst m s) : Tst m (step w ev s) := ⟨h.p1.parted _, h.p2.parted _, srt_srt _, srt_srt _⟩
theorem Tst.itr (h : Tst m s) : ∀ n, Tst m (itr w ev s n)
  | 0 => h
  | n + 1 => (Tst.itr h n).step
theorem Tst.grow (h : Tst m s) (hne : DL.step w ev s ≠ s) : s.1.length + s.2.length < (DL.step w ev s).1.length + (DL.step w ev s).2.length := by
  have h1 := prt_len (f := gw (ops w s.2 ev)) h.p1.ne
  have h2 := prt_len (f := gw (ops w s.1 ev)) h.p2.ne
  refine Classical.byContradiction fun hno => hne ?_
  have e : DL.step w ev s = (prt (gw (ops w s.2 ev)) s.1, prt (gw (ops w s.1 ev)) s.2) := rfl
  rw [e] at hno ⊢
  have g1 := h1.2 (by simp only at hno; omega)
  have g2 := h2.2 (by simp only at hno; omega)
  unfold prt
  rw [g1.2, g2.2, h.s1, h.s2]
/-- not at rest before n -/
def Mov (w : List Rat) (ev : List Int) (s : Bs × Bs) (n : Nat) : Prop := ∀ i, i < n → step w ev (itr w ev s i) ≠ itr w ev s i
theorem Mov.len (h : Tst m s) : ∀ n, Mov w ev s n → n ≤ (DL.itr w ev s n).1.length + (DL.itr w ev s n).2.length
  | 0, _ => Nat.zero_le _
  | n + 1, hm => by
    have ih := Mov.len h n fun i hi => hm i (by omega)
    have := (h.itr (w := w) (ev := ev) n).grow (hm n (by omega))
    show n + 1 ≤ (DL.step w ev _).1.length + (DL.step w ev _).2.length
    omega
theorem Mov.le (h : Tst m s) {n : Nat} (hm : Mov w ev s n) : n ≤ 2 * m := by
  have h1 := Mov.len h n hm
  have h2 := (h.itr (w := w) (ev := ev) n).p1.len
  have h3 := (h.itr (w := w) (ev := ev) n).p2.len
  omega
theorem Mov.one {n k : Nat} (h1 : Mov w ev s n) (h2 : Mov w ev s k) (r1 : DL.step w ev (DL.itr w ev s n) = DL.itr w ev s n) (r2 : DL.step w ev (DL.itr w ev s k) = DL.itr w ev s k) : n = k := by
  rcases Nat.lt_trichotomy n k with h | h | h
  · exact absurd r1 (h2 n h)
  · exact h
  · exact absurd r2 (h1 k h)
theorem Mov.snoc {n : Nat} (h : Mov w ev s n) (hn : DL.step w ev (DL.itr w ev s n) ≠ DL.itr w ev s n) : Mov w ev s (n + 1) := fun i hi => by
  rcases Nat.lt_or_ge i n with h2 | h2
  · exact h i h2
  · rw [show i = n by omega]
    exact hn
theorem ops_at {bs : Bs} {x : Int} (hl : w.length = m) (h0 : 0 ≤ x) (h1 : x < m) : gw (ops w bs ev) x = opn w bs ev x := by
  unfold gw ops
  rw [List.getD_eq_getElem?_getD, List.getElem?_map, List.getElem?_range (by omega)]
  show opn w bs ev (x.toNat : Int) = _
  rw [Int.toNat_of_nonneg h0]
/-- at rest the opinions are one -/
theorem rest_one (h : Tst m s) (hl : w.length = m) (hw : ∀ z : Int, 0 ≤ z → z < m → 0 < gw w z) (hr : DL.step w ev s = s) : ops w s.1 ev = ops w s.2 ev := by
  have e1 : prt (gw (ops w s.2 ev)) s.1 = s.1 := congrArg Prod.fst hr
  have e2 : prt (gw (ops w s.1 ev)) s.2 = s.2 := congrArg Prod.snd hr
  have c1 := prt_const h.p1.ne e1
  have c2 := prt_const h.p2.ne e2
  unfold ops
  refine List.map_congr_left fun x hx => ?_
  have hx := List.mem_range.mp hx
  have h0 : (0 : Int) ≤ (x : Int) := by omega
  have h1 : (x : Int) < m := by omega
  have own : ∀ {bs : Bs}, Prt m bs → ∀ b ∈ bs, ∀ y ∈ b, ∀ z ∈ b, opn w bs ev y = opn w bs ev z := fun p b hb y hy z hz => by
    unfold opn
    rw [p.blk_eq hb hy, p.blk_eq hb hz]
  have cl : ∀ z, Cmp (s.1 ++ s.2) x z → (0 ≤ z ∧ z < (m : Int)) ∧ opn w s.1 ev z = opn w s.1 ev x ∧ opn w s.2 ev z = opn w s.2 ev x := fun z hz => by
    refine hz (fun z => (0 ≤ z ∧ z < (m : Int)) ∧ opn w s.1 ev z = opn w s.1 ev x ∧ opn w s.2 ev z = opn w s.2 ev x) (fun b hb ⟨y, hy, ⟨hy0, hy1⟩, hy2, hy3⟩ u hu => ?_) ⟨⟨h0, h1⟩, rfl, rfl⟩
    rcases List.mem_append.mp hb with hb | hb
    · obtain ⟨u0, u1⟩ := h.p1.rng b hb u hu
      have r1 := own h.p1 b hb u hu y hy
      have r2 := c1 b hb u hu y hy
      rw [ops_at hl u0 u1, ops_at hl hy0 hy1] at r2
      exact ⟨⟨u0, u1⟩, r1.trans hy2, r2.trans hy3⟩
    · obtain ⟨u0, u1⟩ := h.p2.rng b hb u hu
      have r1 := own h.p2 b hb u hu y hy
      have r2 := c2 b hb u hu y hy
      rw [ops_at hl u0 u1, ops_at hl hy0 hy1] at r2
      exact ⟨⟨u0, u1⟩, r2.trans hy2, r1.trans hy3⟩
  exact aumann h.p1 h.p2 hw h0 h1 (fun z _ _ hz => (cl z hz).2.1) fun z _ _ hz => (cl z hz).2.2
end
end DL

set_option Elab.async false
set_option linter.all false
set_option maxRecDepth 100000
set_option maxHeartbeats 4000000
namespace DL
open PySem PySem.Spec PyProof.Rows L2
/-! ### common -/
theorem sortOk_rows {bs : List (List Int)} (h : ∀ b ∈ bs, b ≠ []) (hl : bs.length ≤ sizeLine) : sortOk (bs.map rowI) := by
  refine ⟨PySem.W.AllAlike.of fun b b' => ?_, .inl fun d hd => ?_, by rw [List.length_map]; exact hl, fun d hd => ?_⟩
  · show PySem.W.alike (.tuple _) (.tuple _) = true
    simp only [PySem.W.alike]
    exact PySem.W.alike_ints b b'
  · obtain ⟨b, hb, rfl⟩ := List.mem_map.mp hd
    cases b with
    | nil => exact absurd rfl (h _ hb)
    | cons x b => exact ⟨_, _, rfl⟩
  · obtain ⟨b, hb, rfl⟩ := List.mem_map.mp hd
    show (PyData.tuple _).depth ≤ 64
    simp only [PyData.depth, PySem.W.depth_ints]
    decide
theorem sortOk_ints {l : List Int} (hl : l.length ≤ sizeLine) : sortOk (l.map PyData.int) := by
  refine ⟨PySem.W.AllAlike.of fun b b' => by simp [PySem.W.alike], PySem.W.Sortable.others fun b => ⟨nofun, nofun⟩, by rw [List.length_map]; exact hl, fun d hd => ?_⟩
  obtain ⟨b, hb, rfl⟩ := List.mem_map.mp hd
  simp [PyData.depth]
theorem dSorted_rows {bs : List (List Int)} {Q : D → Prop} (h : ∀ b ∈ bs, b ≠ []) (hl : bs.length ≤ sizeLine) (q : Q (.list ((srt bs).map rowI))) : dSorted [.list (bs.map rowI)] Q := ⟨sortOk_rows h hl, by rw [sortD_rows]; exact q⟩
theorem dSorted_ints {l : List Int} {Q : D → Prop} (hl : l.length ≤ sizeLine) (q : Q (.list ((srtI l).map PyData.int))) : dSorted [.list (l.map PyData.int)] Q := ⟨sortOk_ints hl, by rw [sortD_ints]; exact q⟩
theorem at_ge {l : List Int} {z : Int} (h0 : 0 ≤ z) (h1 : z < l.length) : atI (l.map PyData.int) z = some (.int (ge l z)) := by
  obtain ⟨k, rfl⟩ : ∃ k : Nat, z = k := ⟨z.toNat, by omega⟩
  rw [atI_row (by omega)]
  rfl
theorem at_gw {l : List Rat} {z : Int} (h0 : 0 ≤ z) (h1 : z < l.length) : atI (l.map qD) z = some (qD (gw l z)) := by
  obtain ⟨k, rfl⟩ : ∃ k : Nat, z = k := ⟨z.toNat, by omega⟩
  rw [at_map (getD_some 0 (by omega))]
  rfl
section
variable {Γ : Gam} {m : Nat} {bs : List (List Int)}
theorem at_blk (p : Prt m bs) {x : Int} (h0 : 0 ≤ x) (h1 : x < m) : atI ((bs.filter fun b => decide (x ∈ b)).map rowI) 0 = some (rowI (blkOf bs x)) := by
  obtain ⟨h2, h3⟩ := p.blk h0 h1
  have : blkOf bs x ∈ bs.filter fun b => decide (x ∈ b) := List.mem_filter.mpr ⟨h2, decide_eq_true h3⟩
  unfold blkOf at this ⊢
  cases hf : bs.filter fun b => decide (x ∈ b) with
  | nil => rw [hf] at this; cases this
  | cons c r => exact at_map0
structure Wt9 (m : Nat) (w : List Rat) : Prop where
  m1 : 1 ≤ m
  m5 : m ≤ 5
  len : w.length = m
  sz : ∀ x ∈ w, Sz 5 x
  pos : ∀ z : Int, 0 ≤ z → z < m → 0 < gw w z
structure Ek (m : Nat) (ev : List Int) : Prop where
  len : ev.length = m
  bit : ∀ z : Int, 0 ≤ z → z < m → ge ev z = 0 ∨ ge ev z = 1
/-! ### the promises -/
def φ_over : Phi := fun as P _ => ∃ (p q : Rat) (m n : Nat), as = [.fz (qD p), .fz (qD q)] ∧ Sz m p ∧ Sz n q ∧ m + n < 8000 ∧ q ≠ 0 ∧ P (qD (p / q))
def φ_block_of : Phi := fun as P _ => ∃ (m : Nat) (bs : List (List Int)) (x : Int), as = [.fz (.int x), .fz (gnD bs)] ∧ Prt m bs ∧ m ≤ 5 ∧ 0 ≤ x ∧ x < m ∧ P (rowI (blkOf bs x))
def φ__law_of : Phi := fun as P _ => ∃ (m : Nat) (bs : List (List Int)) (x : Int), as = [.fz (gnD bs), .fz (.int x)] ∧ Prt m bs ∧ m ≤ 5 ∧ 0 ≤ x ∧ x < m ∧ P (rowI (blkOf bs x))
def φ_opinion_in : Phi := fun as P _ => ∃ (m : Nat) (w : List Rat) (b ev : List Int), as = [.fz (rowQ w), .fz (rowI b), .fz (rowI ev)] ∧ Wt9 m w ∧ Ek m ev ∧ b ≠ [] ∧ b.length ≤ 5 ∧ (∀ z ∈ b, 0 ≤ z ∧ z < m) ∧ P (qD (opB w ev b))
def φ_opinion : Phi := fun as P _ => ∃ (m : Nat) (w : List Rat) (bs : List (List Int)) (ev : List Int) (x : Int), as = [.fz (rowQ w), .fz (gnD bs), .fz (rowI ev), .fz (.int x)] ∧ Wt9 m w ∧ Ek m ev ∧ Prt m bs ∧ 0 ≤ x ∧ x < m ∧ P (qD (opn w bs ev x))
def φ_opinions : Phi := fun as P _ => ∃ (m : Nat) (w : List Rat) (bs : List (List Int)) (ev : List Int), as = [.fz (rowQ w), .fz (gnD bs), .fz (rowI ev)] ∧ Wt9 m w ∧ Ek m ev ∧ Prt m bs ∧ P (rowQ (ops w bs ev))
abbrev φ__law_opinions : Phi := φ_opinions
def kn (m : Nat) (bs : List (List Int)) (ev : List Int) : List Int := (List.range m).map fun (x : Nat) => if ((blkOf bs x).all fun z => decide (ge ev z = 1)) = true then 1 else 0
def φ_knows : Phi := fun as P _ => ∃ (m : Nat) (bs : List (List Int)) (ev : List Int), as = [.fz (gnD bs), .fz (rowI ev)] ∧ m ≤ 5 ∧ Ek m ev ∧ Prt m bs ∧ P (rowI (kn m bs ev))
def φ_common : Phi := fun as P _ => ∃ (m : Nat) (a b : List (List Int)), as = [.fz (.int m), .fz (gnD a), .fz (gnD b)] ∧ m ≤ 5 ∧ Prt m a ∧ Prt m b ∧ P (gnD (com m (a ++ b)))
def φ_commonly_known : Phi := fun as P _ => ∃ (m : Nat) (a b : List (List Int)) (ev : List Int), as = [.fz (gnD a), .fz (gnD b), .fz (rowI ev)] ∧ m ≤ 5 ∧ Ek m ev ∧ Prt m a ∧ Prt m b ∧ P (rowI (kn m (com m (a ++ b)) ev))
def φ_parted_by : Phi := fun as P _ => ∃ (m : Nat) (bs : List (List Int)) (told : List Rat), as = [.fz (gnD bs), .fz (rowQ told)] ∧ m ≤ 5 ∧ Prt m bs ∧ told.length = m ∧ P (gnD (prt (gw told) bs))
abbrev φ__law_parted : Phi := φ_parted_by
def stD (s : Bs × Bs) : D := .tuple [gnD s.1, gnD s.2]
def Rest (w : List Rat) (ev : List Int) (s : Bs × Bs) (n : Nat) : Prop := Mov w ev s n ∧ step w ev (itr w ev s n) = itr w ev s n
def φ_talk : Phi := fun as P _ => ∃ (m : Nat) (w : List Rat) (s : Bs × Bs) (ev : List Int), as = [.fz (rowQ w), .fz (gnD s.1), .fz (gnD s.2), .fz (rowI ev)] ∧ Wt9 m w ∧ Ek m ev ∧ Tst m s ∧ ∀ n, Rest w ev s n → P (.list ((its w ev s n).map stD))
def φ_agreed : Phi := fun as P _ => ∃ (m : Nat) (w : List Rat) (s : Bs × Bs) (ev : List Int), as = [.fz (rowQ w), .fz (gnD s.1), .fz (gnD s.2), .fz (rowI ev)] ∧ Wt9 m w ∧ Ek m ev ∧ Tst m s ∧ ∀ n, Rest w ev s n → P (rowQ (ops w (itr w ev s n).1 ev))
def φ__law_blocks : Phi := fun as P _ => ∃ m : Nat, as = [.dr, .fz (.int m)] ∧ 1 ≤ m ∧ m ≤ 5 ∧ ∀ bs, Prt m bs → srt bs = bs → P (gnD bs)
def φ__law_reach : Phi := fun as P _ => ∃ (m : Nat) (a b : List (List Int)) (x : Int), as = [.fz (gnD a), .fz (gnD b), .fz (.int x)] ∧ m ≤ 5 ∧ Prt m a ∧ Prt m b ∧ 0 ≤ x ∧ x < m ∧ P (.list ((rch (a ++ b) x (a.length + b.length + 1)).map PyData.int))
/-! ### the walks -/
theorem imp_over (e : Γ.Φ "lowest" = φ_lowest) (as : List Sl) (P : D → Prop) (PE : Str → Prop) (h : φ_over as P PE) : spW Γ d_over as P PE := by
  obtain ⟨p, q, m, n, rfl, hp, hq, hl, hz, hP⟩ := h
  refine ⟨rfl, ?_⟩
  simp only [d_over, true_and, wpSs, wpS, wpE, wpX, wpO, wpC, wpI, ent, kt0, bindT, bindTs, tgsLen, wipeR, constD, owL, List.map_cons, List.map_nil, List.length_cons, List.length_nil, List.replicate, List.cons_append, List.nil_append, Nat.reduceSub, Nat.reduceAdd, List.getElem?_cons_zero, List.getElem?_cons_succ, List.getElem?_nil, List.set_cons_zero, List.set_cons_succ, opF, cmpF, Bi.fd, Option.map_some, if_true, if_false, Bool.true_eq_false, Bool.false_eq_true, reduceIte, Bool.not_true, Bool.not_false, w_some, w_none, w_fz0, w_fz1, w_t0, w_t1, w_t2, w_t3, w_t4, w_add, w_addL, w_addT, w_sub, w_subB, w_mul, w_mulL, w_mulT, w_mod, w_div, w_lt, w_le, w_gt, w_ge, w_is, w_isnt, w_n0, w_n1, w_n2, w_n3, w_n4, w_neg, w_atL, w_atT, w_lenL, w_lenT, w_tupL, w_tupT, w_lisL, w_lisT, w_abs, w_int, w_intB, w_gcd, w_min, w_max, w_seqL, w_seqT, w_augA, w_augS, w_augM, w_intQ, w_lstQ, w_rng1, w_rng2, w_zipL, w_zipT, w_zipM, w_zipN, w_enum, w_enumT, qD0, qD1, e]
  have hn : q.num ≠ 0 := fun h => hz (Rat.num_eq_zero.mp h)
  refine dEqI ?_
  rw [decide_eq_false hn]
  simp only [true_and, wpSs, wpS, wpE, wpX, wpO, wpC, wpI, ent, kt0, bindT, bindTs, tgsLen, wipeR, constD, owL, List.map_cons, List.map_nil, List.length_cons, List.length_nil, List.replicate, List.cons_append, List.nil_append, Nat.reduceSub, Nat.reduceAdd, List.getElem?_cons_zero, List.getElem?_cons_succ, List.getElem?_nil, List.set_cons_zero, List.set_cons_succ, opF, cmpF, Bi.fd, Option.map_some, if_true, if_false, Bool.true_eq_false, Bool.false_eq_true, reduceIte, Bool.not_true, Bool.not_false, w_some, w_none, w_fz0, w_fz1, w_t0, w_t1, w_t2, w_t3, w_t4, w_add, w_addL, w_addT, w_sub, w_subB, w_mul, w_mulL, w_mulT, w_mod, w_div, w_lt, w_le, w_gt, w_ge, w_is, w_isnt, w_n0, w_n1, w_n2, w_n3, w_n4, w_neg, w_atL, w_atT, w_lenL, w_lenT, w_tupL, w_tupT, w_lisL, w_lisT, w_abs, w_int, w_intB, w_gcd, w_min, w_max, w_seqL, w_seqT, w_augA, w_augS, w_augM, w_intQ, w_lstQ, w_rng1, w_rng2, w_zipL, w_zipT, w_zipM, w_zipN, w_enum, w_enumT, qD0, qD1]
  refine ⟨hp.num.mulOk hq.den (by omega), hp.den.mulOk hq.num (by omega), _, _, m + n, rfl, ?_, hp.den.mul hq.num, by omega, ?_⟩
  · exact mul_ne (den_ne p) hn
  · have : Rat.divInt (p.num * q.den) (p.den * q.num) = p / q := by
      have e1 : p / q = Rat.divInt p.num p.den / Rat.divInt q.num q.den := by rw [self_divInt, self_divInt]
      rw [e1, Rat.div_def, self_divInt q, Rat.inv_def, Rat.divInt_mul_divInt]
    rw [this]
    exact hP
theorem blk_fold {P : D → Prop} (p : Prt m bs) (hm : m ≤ 5) {x : Int} (h0 : 0 ≤ x) (h1 : x < m) (hP : P (rowI (blkOf bs x))) {stp : D → List D → (List D → Prop) → Prop}
    (hs : ∀ b acc kk, b ∈ bs → kk (if decide (x ∈ b) = true then acc ++ [rowI b] else acc) → stp (rowI b) acc kk) :
    (bs.map rowI).length ≤ sizeLine ∧ foldW stp (bs.map rowI) [] fun acc => optQ (atI acc 0) P := by
  have := p.len
  refine ⟨by rw [List.length_map]; exact small (by omega), foldW_filter (fun b => decide (x ∈ b)) rowI hs ?_⟩
  rw [at_blk p h0 h1]
  exact hP
theorem kif {kk : List D → Prop} {c : Bool} {A B : List D} (h : kk (if c = true then A else B)) : if c = true then kk A else kk B := by
  cases c <;> exact h
theorem in_if {x : Int} {b : List Int} {A B : Prop} (h : if decide (x ∈ b) = true then A else B) : dIn false (.int x) (rowI b) fun d => optQ (truD d) fun c => if c = true then A else B := by
  refine dInI ?_
  rw [if_neg Bool.false_ne_true]
  exact h
theorem imp_block_of (as : List Sl) (P : D → Prop) (PE : Str → Prop) (h : φ_block_of as P PE) : spW Γ d_block_of as P PE := by
  obtain ⟨m, bs, x, rfl, p, hm, h0, h1, hP⟩ := h
  refine ⟨rfl, ?_⟩
  simp only [d_block_of, true_and, wpSs, wpS, wpE, wpX, wpO, wpC, wpI, ent, kt0, bindT, bindTs, tgsLen, wipeR, constD, owL, List.map_cons, List.map_nil, List.length_cons, List.length_nil, List.replicate, List.cons_append, List.nil_append, Nat.reduceSub, Nat.reduceAdd, List.getElem?_cons_zero, List.getElem?_cons_succ, List.getElem?_nil, List.set_cons_zero, List.set_cons_succ, opF, cmpF, Bi.fd, Option.map_some, if_true, if_false, Bool.true_eq_false, Bool.false_eq_true, reduceIte, Bool.not_true, Bool.not_false, w_some, w_none, w_fz0, w_fz1, w_t0, w_t1, w_t2, w_t3, w_t4, w_add, w_addL, w_addT, w_sub, w_subB, w_mul, w_mulL, w_mulT, w_mod, w_div, w_lt, w_le, w_gt, w_ge, w_is, w_isnt, w_n0, w_n1, w_n2, w_n3, w_n4, w_neg, w_atL, w_atT, w_lenL, w_lenT, w_tupL, w_tupT, w_lisL, w_lisT, w_abs, w_int, w_intB, w_gcd, w_min, w_max, w_seqL, w_seqT, w_augA, w_augS, w_augM, w_intQ, w_lstQ, w_rng1, w_rng2, w_zipL, w_zipT, w_zipM, w_zipN, w_enum, w_enumT, gnD]
  refine blk_fold p hm h0 h1 hP fun b acc kk hb hk => ?_
  exact in_if (kif hk)
theorem imp__law_of (as : List Sl) (P : D → Prop) (PE : Str → Prop) (h : φ__law_of as P PE) : spW Γ d__law_of as P PE := by
  obtain ⟨m, bs, x, rfl, p, hm, h0, h1, hP⟩ := h
  refine ⟨rfl, ?_⟩
  simp only [d__law_of, true_and, wpSs, wpS, wpE, wpX, wpO, wpC, wpI, ent, kt0, bindT, bindTs, tgsLen, wipeR, constD, owL, List.map_cons, List.map_nil, List.length_cons, List.length_nil, List.replicate, List.cons_append, List.nil_append, Nat.reduceSub, Nat.reduceAdd, List.getElem?_cons_zero, List.getElem?_cons_succ, List.getElem?_nil, List.set_cons_zero, List.set_cons_succ, opF, cmpF, Bi.fd, Option.map_some, if_true, if_false, Bool.true_eq_false, Bool.false_eq_true, reduceIte, Bool.not_true, Bool.not_false, w_some, w_none, w_fz0, w_fz1, w_t0, w_t1, w_t2, w_t3, w_t4, w_add, w_addL, w_addT, w_sub, w_subB, w_mul, w_mulL, w_mulT, w_mod, w_div, w_lt, w_le, w_gt, w_ge, w_is, w_isnt, w_n0, w_n1, w_n2, w_n3, w_n4, w_neg, w_atL, w_atT, w_lenL, w_lenT, w_tupL, w_tupT, w_lisL, w_lisT, w_abs, w_int, w_intB, w_gcd, w_min, w_max, w_seqL, w_seqT, w_augA, w_augS, w_augM, w_intQ, w_lstQ, w_rng1, w_rng2, w_zipL, w_zipT, w_zipM, w_zipN, w_enum, w_enumT, gnD]
  refine blk_fold p hm h0 h1 hP fun b acc kk hb hk => ?_
  exact in_if (kif hk)
theorem opB_sz {w : List Rat} {ev b : List Int} (hw : Wt9 m w) (hb : b.length ≤ 5) (hr : ∀ z ∈ b, 0 ≤ z ∧ z < (m : Int)) : Sums 36 (b.map (gw w)) ∧ Sums 36 ((b.filter fun z => decide (ge ev z = 1)).map (gw w)) := by
  have h : ∀ z ∈ b, Sz 5 (gw w z) := fun z hz => hw.sz _ (getD_mem 0 (by have := hr z hz; have := hw.len; omega))
  refine ⟨sums_le (L := 5) (n := 5) (by rw [List.length_map]; exact hb) fun x hx => ?_, sums_le (L := 5) (n := 5) ?_ fun x hx => ?_⟩
  · obtain ⟨z, hz, rfl⟩ := List.mem_map.mp hx
    exact h z hz
  · rw [List.length_map]
    exact Nat.le_trans (List.length_filter_le _ _) hb
  · obtain ⟨z, hz, rfl⟩ := List.mem_map.mp hx
    exact h z (List.mem_filter.mp hz).1
theorem ev_fold {P : List D → Prop} {w : List Rat} {ev b : List Int} (he : Ek m ev) (hw : Wt9 m w) (hb : b.length ≤ 5) (hr : ∀ z ∈ b, 0 ≤ z ∧ z < (m : Int)) (hP : P (((b.filter fun z => decide (ge ev z = 1)).map (gw w)).map qD)) {stp : D → List D → (List D → Prop) → Prop}
    (hs : ∀ z acc kk, atI (w.map qD) z = some (qD (gw w z)) → atI (ev.map PyData.int) z = some (.int (ge ev z)) → (if decide (ge ev z = 1) = true then kk (acc ++ [qD (gw w z)]) else kk acc) → stp (.int z) acc kk) :
    (b.map PyData.int).length ≤ sizeLine ∧ foldW stp (b.map PyData.int) [] P := by
  refine ⟨by rw [List.length_map]; exact small (by omega), foldW_filter (fun z => decide (ge ev z = 1)) (fun z => qD (gw w z)) (fun z acc kk hz hk => hs z acc kk ?_ ?_ (kif hk)) ?_⟩
  · exact at_gw (hr z hz).1 (by have := hr z hz; have := hw.len; omega)
  · exact at_ge (hr z hz).1 (by have := hr z hz; have := he.len; omega)
  · rw [List.map_map] at hP
    exact hP
theorem all_fold {P : List D → Prop} {w : List Rat} {b : List Int} (hw : Wt9 m w) (hb : b.length ≤ 5) (hr : ∀ z ∈ b, 0 ≤ z ∧ z < (m : Int)) (hP : P ((b.map (gw w)).map qD)) {stp : D → List D → (List D → Prop) → Prop}
    (hs : ∀ z acc kk, atI (w.map qD) z = some (qD (gw w z)) → kk (acc ++ [qD (gw w z)]) → stp (.int z) acc kk) :
    (b.map PyData.int).length ≤ sizeLine ∧ foldW stp (b.map PyData.int) [] P := by
  refine ⟨by rw [List.length_map]; exact small (by omega), foldW_map (fun z => qD (gw w z)) (fun z acc kk hz hk => hs z acc kk ?_ hk) ?_⟩
  · exact at_gw (hr z hz).1 (by have := hr z hz; have := hw.len; omega)
  · rw [List.map_map] at hP
    exact hP
theorem imp_opinion_in (e1 : Γ.Φ "over" = φ_over) (e2 : Γ.Φ "total_of" = φ_total_of) (as : List Sl) (P : D → Prop) (PE : Str → Prop) (h : φ_opinion_in as P PE) : spW Γ d_opinion_in as P PE := by
  obtain ⟨m, w, b, ev, rfl, hw, he, hb, h5, hr, hP⟩ := h
  refine ⟨rfl, ?_⟩
  obtain ⟨s1, s2⟩ := opB_sz (ev := ev) hw h5 hr
  simp only [d_opinion_in, true_and, wpSs, wpS, wpE, wpX, wpO, wpC, wpI, ent, kt0, bindT, bindTs, tgsLen, wipeR, constD, owL, List.map_cons, List.map_nil, List.length_cons, List.length_nil, List.replicate, List.cons_append, List.nil_append, Nat.reduceSub, Nat.reduceAdd, List.getElem?_cons_zero, List.getElem?_cons_succ, List.getElem?_nil, List.set_cons_zero, List.set_cons_succ, opF, cmpF, Bi.fd, Option.map_some, if_true, if_false, Bool.true_eq_false, Bool.false_eq_true, reduceIte, Bool.not_true, Bool.not_false, w_some, w_none, w_fz0, w_fz1, w_t0, w_t1, w_t2, w_t3, w_t4, w_add, w_addL, w_addT, w_sub, w_subB, w_mul, w_mulL, w_mulT, w_mod, w_div, w_lt, w_le, w_gt, w_ge, w_is, w_isnt, w_n0, w_n1, w_n2, w_n3, w_n4, w_neg, w_atL, w_atT, w_lenL, w_lenT, w_tupL, w_tupT, w_lisL, w_lisT, w_abs, w_int, w_intB, w_gcd, w_min, w_max, w_seqL, w_seqT, w_augA, w_augS, w_augM, w_intQ, w_lstQ, w_rng1, w_rng2, w_zipL, w_zipT, w_zipM, w_zipN, w_enum, w_enumT, e1, e2, rowI, rowQ]
  refine ev_fold he hw h5 hr ?_ fun z acc kk a1 a2 hk => ?_
  · refine ⟨true, _, 36, rfl, s2, by decide, ?_⟩
    refine all_fold hw h5 hr ?_ fun z acc kk a1 hk => ?_
    · refine ⟨true, _, 36, rfl, s1, by decide, ?_⟩
      have pos := pAll_pos (w := w) hb fun z hz => hw.pos z (hr z hz).1 (hr z hz).2
      refine ⟨_, _, 36, 36, rfl, s2.all, s1.all, by decide, ?_, hP⟩
      show pAll w b ≠ 0
      grind
    · simp only [true_and, wpSs, wpS, wpE, wpX, wpO, wpC, wpI, ent, kt0, bindT, bindTs, tgsLen, wipeR, constD, owL, List.map_cons, List.map_nil, List.length_cons, List.length_nil, List.replicate, List.cons_append, List.nil_append, Nat.reduceSub, Nat.reduceAdd, List.getElem?_cons_zero, List.getElem?_cons_succ, List.getElem?_nil, List.set_cons_zero, List.set_cons_succ, opF, cmpF, Bi.fd, Option.map_some, if_true, if_false, Bool.true_eq_false, Bool.false_eq_true, reduceIte, Bool.not_true, Bool.not_false, w_some, w_none, w_fz0, w_fz1, w_t0, w_t1, w_t2, w_t3, w_t4, w_add, w_addL, w_addT, w_sub, w_subB, w_mul, w_mulL, w_mulT, w_mod, w_div, w_lt, w_le, w_gt, w_ge, w_is, w_isnt, w_n0, w_n1, w_n2, w_n3, w_n4, w_neg, w_atL, w_atT, w_lenL, w_lenT, w_tupL, w_tupT, w_lisL, w_lisT, w_abs, w_int, w_intB, w_gcd, w_min, w_max, w_seqL, w_seqT, w_augA, w_augS, w_augM, w_intQ, w_lstQ, w_rng1, w_rng2, w_zipL, w_zipT, w_zipM, w_zipN, w_enum, w_enumT, a1]
      exact hk
  · simp only [true_and, wpSs, wpS, wpE, wpX, wpO, wpC, wpI, ent, kt0, bindT, bindTs, tgsLen, wipeR, constD, owL, List.map_cons, List.map_nil, List.length_cons, List.length_nil, List.replicate, List.cons_append, List.nil_append, Nat.reduceSub, Nat.reduceAdd, List.getElem?_cons_zero, List.getElem?_cons_succ, List.getElem?_nil, List.set_cons_zero, List.set_cons_succ, opF, cmpF, Bi.fd, Option.map_some, if_true, if_false, Bool.true_eq_false, Bool.false_eq_true, reduceIte, Bool.not_true, Bool.not_false, w_some, w_none, w_fz0, w_fz1, w_t0, w_t1, w_t2, w_t3, w_t4, w_add, w_addL, w_addT, w_sub, w_subB, w_mul, w_mulL, w_mulT, w_mod, w_div, w_lt, w_le, w_gt, w_ge, w_is, w_isnt, w_n0, w_n1, w_n2, w_n3, w_n4, w_neg, w_atL, w_atT, w_lenL, w_lenT, w_tupL, w_tupT, w_lisL, w_lisT, w_abs, w_int, w_intB, w_gcd, w_min, w_max, w_seqL, w_seqT, w_augA, w_augS, w_augM, w_intQ, w_lstQ, w_rng1, w_rng2, w_zipL, w_zipT, w_zipM, w_zipN, w_enum, w_enumT, a1, a2]
    exact dEqI hk
theorem imp_opinion (e1 : Γ.Φ "opinion_in" = φ_opinion_in) (e2 : Γ.Φ "block_of" = φ_block_of) (as : List Sl) (P : D → Prop) (PE : Str → Prop) (h : φ_opinion as P PE) : spW Γ d_opinion as P PE := by
  obtain ⟨m, w, bs, ev, x, rfl, hw, he, p, h0, h1, hP⟩ := h
  refine ⟨rfl, ?_⟩
  simp only [d_opinion, true_and, wpSs, wpS, wpE, wpX, wpO, wpC, wpI, ent, kt0, bindT, bindTs, tgsLen, wipeR, constD, owL, List.map_cons, List.map_nil, List.length_cons, List.length_nil, List.replicate, List.cons_append, List.nil_append, Nat.reduceSub, Nat.reduceAdd, List.getElem?_cons_zero, List.getElem?_cons_succ, List.getElem?_nil, List.set_cons_zero, List.set_cons_succ, opF, cmpF, Bi.fd, Option.map_some, if_true, if_false, Bool.true_eq_false, Bool.false_eq_true, reduceIte, Bool.not_true, Bool.not_false, w_some, w_none, w_fz0, w_fz1, w_t0, w_t1, w_t2, w_t3, w_t4, w_add, w_addL, w_addT, w_sub, w_subB, w_mul, w_mulL, w_mulT, w_mod, w_div, w_lt, w_le, w_gt, w_ge, w_is, w_isnt, w_n0, w_n1, w_n2, w_n3, w_n4, w_neg, w_atL, w_atT, w_lenL, w_lenT, w_tupL, w_tupT, w_lisL, w_lisT, w_abs, w_int, w_intB, w_gcd, w_min, w_max, w_seqL, w_seqT, w_augA, w_augS, w_augM, w_intQ, w_lstQ, w_rng1, w_rng2, w_zipL, w_zipT, w_zipM, w_zipN, w_enum, w_enumT, e1, e2]
  obtain ⟨hb, hx⟩ := p.blk h0 h1
  refine ⟨m, bs, x, rfl, p, hw.m5, h0, h1, ?_⟩
  exact ⟨m, w, _, ev, rfl, hw, he, p.ne _ hb, Nat.le_trans (p.blen hb) hw.m5, p.rng _ hb, hP⟩
theorem imp_opinions (e1 : Γ.Φ "opinion" = φ_opinion) (as : List Sl) (P : D → Prop) (PE : Str → Prop) (h : φ_opinions as P PE) : spW Γ d_opinions as P PE := by
  obtain ⟨m, w, bs, ev, rfl, hw, he, p, hP⟩ := h
  refine ⟨rfl, ?_⟩
  have m5 := hw.m5
  simp only [d_opinions, true_and, wpSs, wpS, wpE, wpX, wpO, wpC, wpI, ent, kt0, bindT, bindTs, tgsLen, wipeR, constD, owL, List.map_cons, List.map_nil, List.length_cons, List.length_nil, List.replicate, List.cons_append, List.nil_append, Nat.reduceSub, Nat.reduceAdd, List.getElem?_cons_zero, List.getElem?_cons_succ, List.getElem?_nil, List.set_cons_zero, List.set_cons_succ, opF, cmpF, Bi.fd, Option.map_some, if_true, if_false, Bool.true_eq_false, Bool.false_eq_true, reduceIte, Bool.not_true, Bool.not_false, w_some, w_none, w_fz0, w_fz1, w_t0, w_t1, w_t2, w_t3, w_t4, w_add, w_addL, w_addT, w_sub, w_subB, w_mul, w_mulL, w_mulT, w_mod, w_div, w_lt, w_le, w_gt, w_ge, w_is, w_isnt, w_n0, w_n1, w_n2, w_n3, w_n4, w_neg, w_atL, w_atT, w_lenL, w_lenT, w_tupL, w_tupT, w_lisL, w_lisT, w_abs, w_int, w_intB, w_gcd, w_min, w_max, w_seqL, w_seqT, w_augA, w_augS, w_augM, w_intQ, w_lstQ, w_rng1, w_rng2, w_zipL, w_zipT, w_zipM, w_zipN, w_enum, w_enumT, e1, rowQ, hw.len, List.length_map]
  refine ⟨rngOk_small (by omega) (by omega), ?_⟩
  rw [Int.toNat_natCast, rangeD0]
  refine ⟨by rw [List.length_map, List.length_range]; exact small (by omega), ?_⟩
  refine foldW_map (fun (x : Nat) => qD (opn w bs ev x)) (fun x acc kk hx hk => ?_) ?_
  · have hx := List.mem_range.mp hx
    exact ⟨m, w, bs, ev, x, rfl, hw, he, p, by omega, by omega, hk⟩
  · unfold ops rowQ at hP
    rw [List.map_map, hw.len] at hP
    exact hP
theorem sum_fold {P : D → Prop} (p : Prt m bs) (hm : m ≤ 5) (hP : P (.int m)) {stp : D → List D → (List D → Prop) → Prop} (hs : ∀ b acc kk, kk (acc ++ [PyData.int (b.length : Int)]) → stp (rowI b) acc kk) :
    (bs.map rowI).length ≤ sizeLine ∧ foldW stp (bs.map rowI) [] fun acc => dSum [.list acc] P := by
  have := p.len
  refine ⟨by rw [List.length_map]; exact small (by omega), foldW_map (fun b => PyData.int (b.length : Int)) (fun b acc kk _ hk => hs b acc kk hk) ?_⟩
  have e : (bs.map fun b => PyData.int (b.length : Int)) = (bs.map fun b => (b.length : Int)).map PyData.int := by rw [List.map_map]; rfl
  rw [e]
  simp only [dSum, intsOf_map, w_some, p.sum]
  exact hP
theorem imp_knows (e1 : Γ.Φ "block_of" = φ_block_of) (as : List Sl) (P : D → Prop) (PE : Str → Prop) (h : φ_knows as P PE) : spW Γ d_knows as P PE := by
  obtain ⟨m, bs, ev, rfl, m5, he, p, hP⟩ := h
  refine ⟨rfl, ?_⟩
  simp only [d_knows, true_and, wpSs, wpS, wpE, wpX, wpO, wpC, wpI, ent, kt0, bindT, bindTs, tgsLen, wipeR, constD, owL, List.map_cons, List.map_nil, List.length_cons, List.length_nil, List.replicate, List.cons_append, List.nil_append, Nat.reduceSub, Nat.reduceAdd, List.getElem?_cons_zero, List.getElem?_cons_succ, List.getElem?_nil, List.set_cons_zero, List.set_cons_succ, opF, cmpF, Bi.fd, Option.map_some, if_true, if_false, Bool.true_eq_false, Bool.false_eq_true, reduceIte, Bool.not_true, Bool.not_false, w_some, w_none, w_fz0, w_fz1, w_t0, w_t1, w_t2, w_t3, w_t4, w_add, w_addL, w_addT, w_sub, w_subB, w_mul, w_mulL, w_mulT, w_mod, w_div, w_lt, w_le, w_gt, w_ge, w_is, w_isnt, w_n0, w_n1, w_n2, w_n3, w_n4, w_neg, w_atL, w_atT, w_lenL, w_lenT, w_tupL, w_tupT, w_lisL, w_lisT, w_abs, w_int, w_intB, w_gcd, w_min, w_max, w_seqL, w_seqT, w_augA, w_augS, w_augM, w_intQ, w_lstQ, w_rng1, w_rng2, w_zipL, w_zipT, w_zipM, w_zipN, w_enum, w_enumT, e1, gnD]
  refine sum_fold p m5 ?_ fun b acc kk hk => ?_
  · refine ⟨rngOk_small (by omega) (by omega), ?_⟩
    rw [Int.toNat_natCast, rangeD0]
    refine ⟨by rw [List.length_map, List.length_range]; exact small (by omega), ?_⟩
    refine foldW_map (fun (x : Nat) => PyData.int (if ((blkOf bs x).all fun z => decide (ge ev z = 1)) = true then 1 else 0)) (fun x acc kk hx hk => ?_) ?_
    · have hx := List.mem_range.mp hx
      obtain ⟨hb, hxb⟩ := p.blk (x := (x : Int)) (by omega) (by omega)
      have hl := p.blen hb
      refine ⟨m, bs, x, rfl, p, m5, by omega, by omega, ?_⟩
      simp only [true_and, wpSs, wpS, wpE, wpX, wpO, wpC, wpI, ent, kt0, bindT, bindTs, tgsLen, wipeR, constD, owL, List.map_cons, List.map_nil, List.length_cons, List.length_nil, List.replicate, List.cons_append, List.nil_append, Nat.reduceSub, Nat.reduceAdd, List.getElem?_cons_zero, List.getElem?_cons_succ, List.getElem?_nil, List.set_cons_zero, List.set_cons_succ, opF, cmpF, Bi.fd, Option.map_some, if_true, if_false, Bool.true_eq_false, Bool.false_eq_true, reduceIte, Bool.not_true, Bool.not_false, w_some, w_none, w_fz0, w_fz1, w_t0, w_t1, w_t2, w_t3, w_t4, w_add, w_addL, w_addT, w_sub, w_subB, w_mul, w_mulL, w_mulT, w_mod, w_div, w_lt, w_le, w_gt, w_ge, w_is, w_isnt, w_n0, w_n1, w_n2, w_n3, w_n4, w_neg, w_atL, w_atT, w_lenL, w_lenT, w_tupL, w_tupT, w_lisL, w_lisT, w_abs, w_int, w_intB, w_gcd, w_min, w_max, w_seqL, w_seqT, w_augA, w_augS, w_augM, w_intQ, w_lstQ, w_rng1, w_rng2, w_zipL, w_zipT, w_zipM, w_zipN, w_enum, w_enumT, rowI]
      refine ⟨by rw [List.length_map]; exact small (by omega), ?_⟩
      refine foldW_map (fun z => PyData.bool (decide (ge ev z = 1))) (fun z acc kk hz hk => ?_) ?_
      · have hz := p.rng _ hb z hz
        simp only [true_and, wpSs, wpS, wpE, wpX, wpO, wpC, wpI, ent, kt0, bindT, bindTs, tgsLen, wipeR, constD, owL, List.map_cons, List.map_nil, List.length_cons, List.length_nil, List.replicate, List.cons_append, List.nil_append, Nat.reduceSub, Nat.reduceAdd, List.getElem?_cons_zero, List.getElem?_cons_succ, List.getElem?_nil, List.set_cons_zero, List.set_cons_succ, opF, cmpF, Bi.fd, Option.map_some, if_true, if_false, Bool.true_eq_false, Bool.false_eq_true, reduceIte, Bool.not_true, Bool.not_false, w_some, w_none, w_fz0, w_fz1, w_t0, w_t1, w_t2, w_t3, w_t4, w_add, w_addL, w_addT, w_sub, w_subB, w_mul, w_mulL, w_mulT, w_mod, w_div, w_lt, w_le, w_gt, w_ge, w_is, w_isnt, w_n0, w_n1, w_n2, w_n3, w_n4, w_neg, w_atL, w_atT, w_lenL, w_lenT, w_tupL, w_tupT, w_lisL, w_lisT, w_abs, w_int, w_intB, w_gcd, w_min, w_max, w_seqL, w_seqT, w_augA, w_augS, w_augM, w_intQ, w_lstQ, w_rng1, w_rng2, w_zipL, w_zipT, w_zipM, w_zipN, w_enum, w_enumT, at_ge hz.1 (show z < ev.length by have := he.len; omega)]
        exact dEqI hk
      · refine dAll_map ?_
        simp only [true_and, wpSs, wpS, wpE, wpX, wpO, wpC, wpI, ent, kt0, bindT, bindTs, tgsLen, wipeR, constD, owL, List.map_cons, List.map_nil, List.length_cons, List.length_nil, List.replicate, List.cons_append, List.nil_append, Nat.reduceSub, Nat.reduceAdd, List.getElem?_cons_zero, List.getElem?_cons_succ, List.getElem?_nil, List.set_cons_zero, List.set_cons_succ, opF, cmpF, Bi.fd, Option.map_some, if_true, if_false, Bool.true_eq_false, Bool.false_eq_true, reduceIte, Bool.not_true, Bool.not_false, w_some, w_none, w_fz0, w_fz1, w_t0, w_t1, w_t2, w_t3, w_t4, w_add, w_addL, w_addT, w_sub, w_subB, w_mul, w_mulL, w_mulT, w_mod, w_div, w_lt, w_le, w_gt, w_ge, w_is, w_isnt, w_n0, w_n1, w_n2, w_n3, w_n4, w_neg, w_atL, w_atT, w_lenL, w_lenT, w_tupL, w_tupT, w_lisL, w_lisT, w_abs, w_int, w_intB, w_gcd, w_min, w_max, w_seqL, w_seqT, w_augA, w_augS, w_augM, w_intQ, w_lstQ, w_rng1, w_rng2, w_zipL, w_zipT, w_zipM, w_zipN, w_enum, w_enumT]
        exact hk
    · unfold kn rowI at hP
      rw [List.map_map] at hP
      exact hP
  · simp only [true_and, wpSs, wpS, wpE, wpX, wpO, wpC, wpI, ent, kt0, bindT, bindTs, tgsLen, wipeR, constD, owL, List.map_cons, List.map_nil, List.length_cons, List.length_nil, List.replicate, List.cons_append, List.nil_append, Nat.reduceSub, Nat.reduceAdd, List.getElem?_cons_zero, List.getElem?_cons_succ, List.getElem?_nil, List.set_cons_zero, List.set_cons_succ, opF, cmpF, Bi.fd, Option.map_some, if_true, if_false, Bool.true_eq_false, Bool.false_eq_true, reduceIte, Bool.not_true, Bool.not_false, w_some, w_none, w_fz0, w_fz1, w_t0, w_t1, w_t2, w_t3, w_t4, w_add, w_addL, w_addT, w_sub, w_subB, w_mul, w_mulL, w_mulT, w_mod, w_div, w_lt, w_le, w_gt, w_ge, w_is, w_isnt, w_n0, w_n1, w_n2, w_n3, w_n4, w_neg, w_atL, w_atT, w_lenL, w_lenT, w_tupL, w_tupT, w_lisL, w_lisT, w_abs, w_int, w_intB, w_gcd, w_min, w_max, w_seqL, w_seqT, w_augA, w_augS, w_augM, w_intQ, w_lstQ, w_rng1, w_rng2, w_zipL, w_zipT, w_zipM, w_zipN, w_enum, w_enumT, rowI, List.length_map]
    exact hk
theorem imp_commonly_known (e1 : Γ.Φ "knows" = φ_knows) (e2 : Γ.Φ "common" = φ_common) (as : List Sl) (P : D → Prop) (PE : Str → Prop) (h : φ_commonly_known as P PE) : spW Γ d_commonly_known as P PE := by
  obtain ⟨m, a, b, ev, rfl, m5, he, pa, pb, hP⟩ := h
  refine ⟨rfl, ?_⟩
  simp only [d_commonly_known, true_and, wpSs, wpS, wpE, wpX, wpO, wpC, wpI, ent, kt0, bindT, bindTs, tgsLen, wipeR, constD, owL, List.map_cons, List.map_nil, List.length_cons, List.length_nil, List.replicate, List.cons_append, List.nil_append, Nat.reduceSub, Nat.reduceAdd, List.getElem?_cons_zero, List.getElem?_cons_succ, List.getElem?_nil, List.set_cons_zero, List.set_cons_succ, opF, cmpF, Bi.fd, Option.map_some, if_true, if_false, Bool.true_eq_false, Bool.false_eq_true, reduceIte, Bool.not_true, Bool.not_false, w_some, w_none, w_fz0, w_fz1, w_t0, w_t1, w_t2, w_t3, w_t4, w_add, w_addL, w_addT, w_sub, w_subB, w_mul, w_mulL, w_mulT, w_mod, w_div, w_lt, w_le, w_gt, w_ge, w_is, w_isnt, w_n0, w_n1, w_n2, w_n3, w_n4, w_neg, w_atL, w_atT, w_lenL, w_lenT, w_tupL, w_tupT, w_lisL, w_lisT, w_abs, w_int, w_intB, w_gcd, w_min, w_max, w_seqL, w_seqT, w_augA, w_augS, w_augM, w_intQ, w_lstQ, w_rng1, w_rng2, w_zipL, w_zipT, w_zipM, w_zipN, w_enum, w_enumT, e1, e2, gnD]
  refine sum_fold pa m5 ?_ fun b acc kk hk => ?_
  · refine ⟨m, a, b, rfl, m5, pa, pb, ?_⟩
    refine ⟨m, _, ev, rfl, m5, he, ?_, hP⟩
    exact com_prt (fun c hc => (List.mem_append.mp hc).elim (pa.ne c) (pb.ne c)) fun c hc => (List.mem_append.mp hc).elim (pa.rng c) (pb.rng c)
  · simp only [true_and, wpSs, wpS, wpE, wpX, wpO, wpC, wpI, ent, kt0, bindT, bindTs, tgsLen, wipeR, constD, owL, List.map_cons, List.map_nil, List.length_cons, List.length_nil, List.replicate, List.cons_append, List.nil_append, Nat.reduceSub, Nat.reduceAdd, List.getElem?_cons_zero, List.getElem?_cons_succ, List.getElem?_nil, List.set_cons_zero, List.set_cons_succ, opF, cmpF, Bi.fd, Option.map_some, if_true, if_false, Bool.true_eq_false, Bool.false_eq_true, reduceIte, Bool.not_true, Bool.not_false, w_some, w_none, w_fz0, w_fz1, w_t0, w_t1, w_t2, w_t3, w_t4, w_add, w_addL, w_addT, w_sub, w_subB, w_mul, w_mulL, w_mulT, w_mod, w_div, w_lt, w_le, w_gt, w_ge, w_is, w_isnt, w_n0, w_n1, w_n2, w_n3, w_n4, w_neg, w_atL, w_atT, w_lenL, w_lenT, w_tupL, w_tupT, w_lisL, w_lisT, w_abs, w_int, w_intB, w_gcd, w_min, w_max, w_seqL, w_seqT, w_augA, w_augS, w_augM, w_intQ, w_lstQ, w_rng1, w_rng2, w_zipL, w_zipT, w_zipM, w_zipN, w_enum, w_enumT, rowI, List.length_map]
    exact hk
end
end DL

set_option Elab.async false
set_option linter.all false
set_option maxRecDepth 100000
set_option maxHeartbeats 4000000
namespace DL
open PySem PySem.Spec PyProof.Rows L2
section
variable {Γ : Gam} {m : Nat} {bs : List (List Int)}
theorem Com.prt {all done f : List (List Int)} (h : Com m all done f) : Prt m f := ⟨h.ne, h.rng, h.cov, h.dis, h.nd⟩
theorem Prt.flat (p : Prt m bs) : bs.flatten.length = m := by
  have := p.perm.length_eq
  rw [this]
  unfold zs
  rw [List.length_map, List.length_range]
def one0 (m : Nat) : List (List Int) := (List.range m).map fun (x : Nat) => [(x : Int)]
/-! a set of the union of two partitions -/
structure Two (m : Nat) (all : List (List Int)) : Prop where
  ne : ∀ b ∈ all, b ≠ []
  rng : ∀ b ∈ all, ∀ z ∈ b, 0 ≤ z ∧ z < (m : Int)
  nd : ∀ b ∈ all, b.Nodup
theorem two_of {a b : List (List Int)} (pa : Prt m a) (pb : Prt m b) : Two m (a ++ b) :=
  ⟨fun c hc => (List.mem_append.mp hc).elim (pa.ne c) (pb.ne c), fun c hc => (List.mem_append.mp hc).elim (pa.rng c) (pb.rng c), fun c hc => (List.mem_append.mp hc).elim (pa.nd c) (pb.nd c)⟩
theorem sub_len {l : List Int} (hn : l.Nodup) (hr : ∀ z ∈ l, 0 ≤ z ∧ z < (m : Int)) : l.length ≤ m := by
  have pm : ((zs m).filter fun z => decide (z ∈ l)).Perm l := by
    rw [List.perm_ext_iff_of_nodup ((zs_nodup m).filter _) hn]
    intro z
    rw [List.mem_filter, decide_eq_true_iff, mem_zs]
    exact ⟨fun h => h.2, fun h => ⟨hr z h, h⟩⟩
  rw [← pm.length_eq]
  refine Nat.le_trans (List.length_filter_le _ _) ?_
  unfold zs
  rw [List.length_map, List.length_range]
  exact Nat.le_refl _
theorem flat_filter (c : List Int → Bool) : ∀ f : List (List Int), ((f.filter c).flatten).length ≤ f.flatten.length
  | [] => Nat.le_refl _
  | p :: f => by
    have := flat_filter c f
    rw [List.filter_cons, List.flatten_cons, List.length_append]
    split
    · rw [List.flatten_cons, List.length_append]; omega
    · omega
theorem any_fold {P : Bool → Prop} {b p : List Int} (hl : p.length ≤ 1000) (hP : P (hits b p)) {Q : D → Prop} (hQ : ∀ c, P c → Q (.bool c)) :
    (p.map PyData.int).length ≤ sizeLine ∧ foldW (fun d acc k => dIn false d (rowI b) fun y => k (acc ++ [y])) (p.map PyData.int) [] fun acc => dAny [.list acc] Q := by
  refine ⟨by rw [List.length_map]; exact small hl, foldW_map (fun x => PyData.bool (decide (x ∈ b))) (fun x acc kk _ hk => dInI hk) (dAny_map (hQ _ hP))⟩
theorem imp_common (as : List Sl) (P : D → Prop) (PE : Str → Prop) (h : φ_common as P PE) : spW Γ d_common as P PE := by
  obtain ⟨m, a, b, rfl, m5, pa, pb, hP⟩ := h
  refine ⟨rfl, ?_⟩
  have tw := two_of pa pb
  have la := pa.len
  have lb := pb.len
  simp only [d_common, true_and, wpSs, wpS, wpE, wpX, wpO, wpC, wpI, ent, kt0, bindT, bindTs, tgsLen, wipeR, constD, owL, List.map_cons, List.map_nil, List.length_cons, List.length_nil, List.replicate, List.cons_append, List.nil_append, Nat.reduceSub, Nat.reduceAdd, List.getElem?_cons_zero, List.getElem?_cons_succ, List.getElem?_nil, List.set_cons_zero, List.set_cons_succ, opF, cmpF, Bi.fd, Option.map_some, if_true, if_false, Bool.true_eq_false, Bool.false_eq_true, reduceIte, Bool.not_true, Bool.not_false, w_some, w_none, w_fz0, w_fz1, w_t0, w_t1, w_t2, w_t3, w_t4, w_add, w_addL, w_addT, w_sub, w_subB, w_mul, w_mulL, w_mulT, w_mod, w_div, w_lt, w_le, w_gt, w_ge, w_is, w_isnt, w_n0, w_n1, w_n2, w_n3, w_n4, w_neg, w_atL, w_atT, w_lenL, w_lenT, w_tupL, w_tupT, w_lisL, w_lisT, w_abs, w_int, w_intB, w_gcd, w_min, w_max, w_seqL, w_seqT, w_augA, w_augS, w_augM, w_intQ, w_lstQ, w_rng1, w_rng2, w_zipL, w_zipT, w_zipM, w_zipN, w_enum, w_enumT, gnD]
  refine ⟨rngOk_small (by omega) (by omega), ?_⟩
  rw [Int.toNat_natCast, rangeD0]
  refine ⟨by rw [List.length_map, List.length_range]; exact small (by omega), ?_⟩
  refine foldW_map (fun (x : Nat) => rowI [(x : Int)]) (fun x acc kk hx hk => hk) ?_
  have e0 : ((List.range m).map fun (x : Nat) => rowI [(x : Int)]) = (one0 m).map rowI := by unfold one0; rw [List.map_map]; rfl
  rw [e0]
  refine ⟨by rw [List.length_map, List.length_map]; exact small (by omega), ?_⟩
  rw [← List.map_append]
  refine forW_inv (I := fun done ρ => ∃ y4 y5 y6 y7, ρ = [some (.fz (.int m)), some (.fz (.tuple (a.map rowI))), some (.fz (.tuple (b.map rowI))), some (.fz (.list ((done.foldl comS (one0 m)).map rowI))), y4, y5, y6, y7]) ⟨none, none, none, none, rfl⟩ (fun done x rest ρ kk el hI hk => ?_) (fun ρ hI => ?_)
  · obtain ⟨y4, y5, y6, y7, rfl⟩ := hI
    have hdone : ∀ c ∈ done, c ∈ a ++ b := fun c hc => by rw [el]; exact List.mem_append.mpr (.inl hc)
    have pf : Prt m (done.foldl comS (one0 m)) := (com_all (m := m) (all := done) (fun c hc => tw.ne c (hdone c hc)) fun c hc => tw.rng c (hdone c hc)).prt
    have ef : (done ++ [x]).foldl comS (one0 m) = comS (done.foldl comS (one0 m)) x := by rw [List.foldl_append]; rfl
    rw [ef] at hk
    generalize done.foldl comS (one0 m) = f at *
    have lf := pf.len
    have fl := pf.flat
    simp only [true_and, wpSs, wpS, wpE, wpX, wpO, wpC, wpI, ent, kt0, bindT, bindTs, tgsLen, wipeR, constD, owL, List.map_cons, List.map_nil, List.length_cons, List.length_nil, List.replicate, List.cons_append, List.nil_append, Nat.reduceSub, Nat.reduceAdd, List.getElem?_cons_zero, List.getElem?_cons_succ, List.getElem?_nil, List.set_cons_zero, List.set_cons_succ, opF, cmpF, Bi.fd, Option.map_some, if_true, if_false, Bool.true_eq_false, Bool.false_eq_true, reduceIte, Bool.not_true, Bool.not_false, w_some, w_none, w_fz0, w_fz1, w_t0, w_t1, w_t2, w_t3, w_t4, w_add, w_addL, w_addT, w_sub, w_subB, w_mul, w_mulL, w_mulT, w_mod, w_div, w_lt, w_le, w_gt, w_ge, w_is, w_isnt, w_n0, w_n1, w_n2, w_n3, w_n4, w_neg, w_atL, w_atT, w_lenL, w_lenT, w_tupL, w_tupT, w_lisL, w_lisT, w_abs, w_int, w_intB, w_gcd, w_min, w_max, w_seqL, w_seqT, w_augA, w_augS, w_augM, w_intQ, w_lstQ, w_rng1, w_rng2, w_zipL, w_zipT, w_zipM, w_zipN, w_enum, w_enumT]
    refine foldW_inv (I := fun dn acc => acc = ((dn.filter (hits x)).flatten).map PyData.int) rfl (fun dn p rs acc k2 e2 hI hk2 => ?_) (fun acc hI => ?_)
    · subst hI
      have lp : p.length ≤ 5 := Nat.le_trans (pf.blen (by rw [e2]; simp)) m5
      have fd : ((dn.filter (hits x)).flatten).length + p.length ≤ 5 := by
        have s1 : ((dn.filter (hits x)).flatten).length ≤ dn.flatten.length := flat_filter _ _
        rw [e2, List.flatten_append, List.length_append, List.flatten_cons, List.length_append] at fl
        omega
      have nx : k2 (if hits x p = true then ((dn.filter (hits x)).flatten).map PyData.int ++ p.map PyData.int else ((dn.filter (hits x)).flatten).map PyData.int) := by
        refine hk2 _ ?_
        rw [List.filter_append, List.filter_cons]
        cases hits x p with
        | false => simp
        | true => simp
      simp only [true_and, wpSs, wpS, wpE, wpX, wpO, wpC, wpI, ent, kt0, bindT, bindTs, tgsLen, wipeR, constD, owL, List.map_cons, List.map_nil, List.length_cons, List.length_nil, List.replicate, List.cons_append, List.nil_append, Nat.reduceSub, Nat.reduceAdd, List.getElem?_cons_zero, List.getElem?_cons_succ, List.getElem?_nil, List.set_cons_zero, List.set_cons_succ, opF, cmpF, Bi.fd, Option.map_some, if_true, if_false, Bool.true_eq_false, Bool.false_eq_true, reduceIte, Bool.not_true, Bool.not_false, w_some, w_none, w_fz0, w_fz1, w_t0, w_t1, w_t2, w_t3, w_t4, w_add, w_addL, w_addT, w_sub, w_subB, w_mul, w_mulL, w_mulT, w_mod, w_div, w_lt, w_le, w_gt, w_ge, w_is, w_isnt, w_n0, w_n1, w_n2, w_n3, w_n4, w_neg, w_atL, w_atT, w_lenL, w_lenT, w_tupL, w_tupT, w_lisL, w_lisT, w_abs, w_int, w_intB, w_gcd, w_min, w_max, w_seqL, w_seqT, w_augA, w_augS, w_augM, w_intQ, w_lstQ, w_rng1, w_rng2, w_zipL, w_zipT, w_zipM, w_zipN, w_enum, w_enumT, rowI]
      refine any_fold (b := x) (P := fun c => c = hits x p) (by omega) rfl fun c hc => ?_
      subst hc
      cases hh : hits x p with
      | false =>
        rw [hh] at nx
        simp only [true_and, wpSs, wpS, wpE, wpX, wpO, wpC, wpI, ent, kt0, bindT, bindTs, tgsLen, wipeR, constD, owL, List.map_cons, List.map_nil, List.length_cons, List.length_nil, List.replicate, List.cons_append, List.nil_append, Nat.reduceSub, Nat.reduceAdd, List.getElem?_cons_zero, List.getElem?_cons_succ, List.getElem?_nil, List.set_cons_zero, List.set_cons_succ, opF, cmpF, Bi.fd, Option.map_some, if_true, if_false, Bool.true_eq_false, Bool.false_eq_true, reduceIte, Bool.not_true, Bool.not_false, w_some, w_none, w_fz0, w_fz1, w_t0, w_t1, w_t2, w_t3, w_t4, w_add, w_addL, w_addT, w_sub, w_subB, w_mul, w_mulL, w_mulT, w_mod, w_div, w_lt, w_le, w_gt, w_ge, w_is, w_isnt, w_n0, w_n1, w_n2, w_n3, w_n4, w_neg, w_atL, w_atT, w_lenL, w_lenT, w_tupL, w_tupT, w_lisL, w_lisT, w_abs, w_int, w_intB, w_gcd, w_min, w_max, w_seqL, w_seqT, w_augA, w_augS, w_augM, w_intQ, w_lstQ, w_rng1, w_rng2, w_zipL, w_zipT, w_zipM, w_zipN, w_enum, w_enumT]
        exact nx
      | true =>
        rw [hh] at nx
        simp only [true_and, wpSs, wpS, wpE, wpX, wpO, wpC, wpI, ent, kt0, bindT, bindTs, tgsLen, wipeR, constD, owL, List.map_cons, List.map_nil, List.length_cons, List.length_nil, List.replicate, List.cons_append, List.nil_append, Nat.reduceSub, Nat.reduceAdd, List.getElem?_cons_zero, List.getElem?_cons_succ, List.getElem?_nil, List.set_cons_zero, List.set_cons_succ, opF, cmpF, Bi.fd, Option.map_some, if_true, if_false, Bool.true_eq_false, Bool.false_eq_true, reduceIte, Bool.not_true, Bool.not_false, w_some, w_none, w_fz0, w_fz1, w_t0, w_t1, w_t2, w_t3, w_t4, w_add, w_addL, w_addT, w_sub, w_subB, w_mul, w_mulL, w_mulT, w_mod, w_div, w_lt, w_le, w_gt, w_ge, w_is, w_isnt, w_n0, w_n1, w_n2, w_n3, w_n4, w_neg, w_atL, w_atT, w_lenL, w_lenT, w_tupL, w_tupT, w_lisL, w_lisT, w_abs, w_int, w_intB, w_gcd, w_min, w_max, w_seqL, w_seqT, w_augA, w_augS, w_augM, w_intQ, w_lstQ, w_rng1, w_rng2, w_zipL, w_zipT, w_zipM, w_zipN, w_enum, w_enumT]
        refine foldW_mapB (N := 1000) (fun z => PyData.int z) (by rw [List.length_map]; omega) (fun z acc k3 _ hl hk3 => ⟨small1000 (Nat.le_of_lt hl), hk3⟩) nx
    · subst hI
      have fd : ((f.filter (hits x)).flatten).length ≤ 5 := by
        have s1 : ((f.filter (hits x)).flatten).length ≤ f.flatten.length := flat_filter _ _
        omega
      refine dSorted_ints (small (by omega)) ?_
      simp only [true_and, wpSs, wpS, wpE, wpX, wpO, wpC, wpI, ent, kt0, bindT, bindTs, tgsLen, wipeR, constD, owL, List.map_cons, List.map_nil, List.length_cons, List.length_nil, List.replicate, List.cons_append, List.nil_append, Nat.reduceSub, Nat.reduceAdd, List.getElem?_cons_zero, List.getElem?_cons_succ, List.getElem?_nil, List.set_cons_zero, List.set_cons_succ, opF, cmpF, Bi.fd, Option.map_some, if_true, if_false, Bool.true_eq_false, Bool.false_eq_true, reduceIte, Bool.not_true, Bool.not_false, w_some, w_none, w_fz0, w_fz1, w_t0, w_t1, w_t2, w_t3, w_t4, w_add, w_addL, w_addT, w_sub, w_subB, w_mul, w_mulL, w_mulT, w_mod, w_div, w_lt, w_le, w_gt, w_ge, w_is, w_isnt, w_n0, w_n1, w_n2, w_n3, w_n4, w_neg, w_atL, w_atT, w_lenL, w_lenT, w_tupL, w_tupT, w_lisL, w_lisT, w_abs, w_int, w_intB, w_gcd, w_min, w_max, w_seqL, w_seqT, w_augA, w_augS, w_augM, w_intQ, w_lstQ, w_rng1, w_rng2, w_zipL, w_zipT, w_zipM, w_zipN, w_enum, w_enumT]
      refine ⟨by rw [List.length_map]; exact small (by omega), ?_⟩
      refine foldW_filter (fun p => !hits x p) rowI (fun p acc k2 hp hk2 => ?_) ?_
      · have lp : p.length ≤ 5 := Nat.le_trans (pf.blen hp) m5
        simp only [true_and, wpSs, wpS, wpE, wpX, wpO, wpC, wpI, ent, kt0, bindT, bindTs, tgsLen, wipeR, constD, owL, List.map_cons, List.map_nil, List.length_cons, List.length_nil, List.replicate, List.cons_append, List.nil_append, Nat.reduceSub, Nat.reduceAdd, List.getElem?_cons_zero, List.getElem?_cons_succ, List.getElem?_nil, List.set_cons_zero, List.set_cons_succ, opF, cmpF, Bi.fd, Option.map_some, if_true, if_false, Bool.true_eq_false, Bool.false_eq_true, reduceIte, Bool.not_true, Bool.not_false, w_some, w_none, w_fz0, w_fz1, w_t0, w_t1, w_t2, w_t3, w_t4, w_add, w_addL, w_addT, w_sub, w_subB, w_mul, w_mulL, w_mulT, w_mod, w_div, w_lt, w_le, w_gt, w_ge, w_is, w_isnt, w_n0, w_n1, w_n2, w_n3, w_n4, w_neg, w_atL, w_atT, w_lenL, w_lenT, w_tupL, w_tupT, w_lisL, w_lisT, w_abs, w_int, w_intB, w_gcd, w_min, w_max, w_seqL, w_seqT, w_augA, w_augS, w_augM, w_intQ, w_lstQ, w_rng1, w_rng2, w_zipL, w_zipT, w_zipM, w_zipN, w_enum, w_enumT, rowI]
        refine any_fold (b := x) (P := fun c => c = hits x p) (by omega) rfl fun c hc => ?_
        subst hc
        simp only [true_and, wpSs, wpS, wpE, wpX, wpO, wpC, wpI, ent, kt0, bindT, bindTs, tgsLen, wipeR, constD, owL, List.map_cons, List.map_nil, List.length_cons, List.length_nil, List.replicate, List.cons_append, List.nil_append, Nat.reduceSub, Nat.reduceAdd, List.getElem?_cons_zero, List.getElem?_cons_succ, List.getElem?_nil, List.set_cons_zero, List.set_cons_succ, opF, cmpF, Bi.fd, Option.map_some, if_true, if_false, Bool.true_eq_false, Bool.false_eq_true, reduceIte, Bool.not_true, Bool.not_false, w_some, w_none, w_fz0, w_fz1, w_t0, w_t1, w_t2, w_t3, w_t4, w_add, w_addL, w_addT, w_sub, w_subB, w_mul, w_mulL, w_mulT, w_mod, w_div, w_lt, w_le, w_gt, w_ge, w_is, w_isnt, w_n0, w_n1, w_n2, w_n3, w_n4, w_neg, w_atL, w_atT, w_lenL, w_lenT, w_tupL, w_tupT, w_lisL, w_lisT, w_abs, w_int, w_intB, w_gcd, w_min, w_max, w_seqL, w_seqT, w_augA, w_augS, w_augM, w_intQ, w_lstQ, w_rng1, w_rng2, w_zipL, w_zipT, w_zipM, w_zipN, w_enum, w_enumT]
        exact kif hk2
      · have := List.length_filter_le (fun p => !hits x p) f
        refine ⟨by rw [List.length_map]; exact small (by omega), ?_⟩
        have ec : (comS f x).map rowI = (f.filter fun p => !hits x p).map rowI ++ [PyData.tuple ((srtI (f.filter (hits x)).flatten).map PyData.int)] := by
          unfold comS
          rw [List.map_append]
          rfl
        rw [ec] at hk
        exact hk _ ⟨_, _, _, _, rfl⟩
  · obtain ⟨y4, y5, y6, y7, rfl⟩ := hI
    have pf : Prt m ((a ++ b).foldl comS (one0 m)) := (com_all (m := m) (all := a ++ b) tw.ne tw.rng).prt
    have lf := pf.len
    simp only [true_and, wpSs, wpS, wpE, wpX, wpO, wpC, wpI, ent, kt0, bindT, bindTs, tgsLen, wipeR, constD, owL, List.map_cons, List.map_nil, List.length_cons, List.length_nil, List.replicate, List.cons_append, List.nil_append, Nat.reduceSub, Nat.reduceAdd, List.getElem?_cons_zero, List.getElem?_cons_succ, List.getElem?_nil, List.set_cons_zero, List.set_cons_succ, opF, cmpF, Bi.fd, Option.map_some, if_true, if_false, Bool.true_eq_false, Bool.false_eq_true, reduceIte, Bool.not_true, Bool.not_false, w_some, w_none, w_fz0, w_fz1, w_t0, w_t1, w_t2, w_t3, w_t4, w_add, w_addL, w_addT, w_sub, w_subB, w_mul, w_mulL, w_mulT, w_mod, w_div, w_lt, w_le, w_gt, w_ge, w_is, w_isnt, w_n0, w_n1, w_n2, w_n3, w_n4, w_neg, w_atL, w_atT, w_lenL, w_lenT, w_tupL, w_tupT, w_lisL, w_lisT, w_abs, w_int, w_intB, w_gcd, w_min, w_max, w_seqL, w_seqT, w_augA, w_augS, w_augM, w_intQ, w_lstQ, w_rng1, w_rng2, w_zipL, w_zipT, w_zipM, w_zipN, w_enum, w_enumT]
    refine dSorted_rows pf.ne (small (by omega)) ?_
    simp only [true_and, wpSs, wpS, wpE, wpX, wpO, wpC, wpI, ent, kt0, bindT, bindTs, tgsLen, wipeR, constD, owL, List.map_cons, List.map_nil, List.length_cons, List.length_nil, List.replicate, List.cons_append, List.nil_append, Nat.reduceSub, Nat.reduceAdd, List.getElem?_cons_zero, List.getElem?_cons_succ, List.getElem?_nil, List.set_cons_zero, List.set_cons_succ, opF, cmpF, Bi.fd, Option.map_some, if_true, if_false, Bool.true_eq_false, Bool.false_eq_true, reduceIte, Bool.not_true, Bool.not_false, w_some, w_none, w_fz0, w_fz1, w_t0, w_t1, w_t2, w_t3, w_t4, w_add, w_addL, w_addT, w_sub, w_subB, w_mul, w_mulL, w_mulT, w_mod, w_div, w_lt, w_le, w_gt, w_ge, w_is, w_isnt, w_n0, w_n1, w_n2, w_n3, w_n4, w_neg, w_atL, w_atT, w_lenL, w_lenT, w_tupL, w_tupT, w_lisL, w_lisT, w_abs, w_int, w_intB, w_gcd, w_min, w_max, w_seqL, w_seqT, w_augA, w_augS, w_augM, w_intQ, w_lstQ, w_rng1, w_rng2, w_zipL, w_zipT, w_zipM, w_zipN, w_enum, w_enumT]
    exact hP
end
end DL

set_option Elab.async false
set_option linter.all false
set_option maxRecDepth 100000
set_option maxHeartbeats 4000000
namespace DL
open PySem PySem.Spec PyProof.Rows L2
/-! ### the dict of parted_by -/
abbrev NK := NestedKey
def kk2 (b : List Int) (v : Rat) : NK := .tup [.tup (b.map .num), .tup [.num v.num, .num (v.den : Int)]]
theorem nk_int (i : Int) : nkOf (.int i) = some (.num i) := by rw [nkOf]
theorem nk_nil : nksOf [] = some [] := by rw [nksOf]
theorem nk_cons {d : D} {k : NK} {ds : List D} {ks : List NK} (h1 : nkOf d = some k) (h2 : nksOf ds = some ks) : nksOf (d :: ds) = some (k :: ks) := by rw [nksOf, h1, h2]
theorem nk_tup {ds : List D} {ks : List NK} (h : nksOf ds = some ks) : nkOf (.tuple ds) = some (.tup ks) := by
  rw [nkOf, h]
  rfl
theorem nksOf_ints : ∀ b : List Int, nksOf (b.map PyData.int) = some (b.map NestedKey.num)
  | [] => nk_nil
  | x :: b => nk_cons (nk_int x) (nksOf_ints b)
theorem depths_nums : ∀ b : List Int, NestedKey.depthAll (b.map NestedKey.num) ≤ 1
  | [] => by rw [List.map_nil, NestedKey.depthAll]; decide
  | x :: b => by
    have := depths_nums b
    rw [List.map_cons, NestedKey.depthAll, NestedKey.depth]
    exact Nat.max_le.mpr ⟨by decide, this⟩
theorem keyT_kk (b : List Int) (v : Rat) : keyT (.tuple [rowI b, qD v]) = some (kk2 b v) := by
  have e : nkOf (.tuple [rowI b, qD v]) = some (kk2 b v) := by
    exact nk_tup (nk_cons (nk_tup (nksOf_ints b)) (nk_cons (nk_tup (nk_cons (nk_int _) (nk_cons (nk_int _) nk_nil))) nk_nil))
  unfold keyT
  simp only [e]
  rw [if_pos]
  unfold kk2
  have := depths_nums b
  simp only [NestedKey.depth, NestedKey.depthAll]
  omega
theorem kk2_inj {b c : List Int} {u v : Rat} (h : kk2 b u = kk2 c v) : b = c ∧ u = v := by
  unfold kk2 at h
  simp only [NestedKey.tup.injEq, List.cons.injEq, NestedKey.num.injEq, and_true] at h
  refine ⟨?_, Rat.ext h.2.1 (by omega)⟩
  have : ∀ {b c : List Int}, b.map NestedKey.num = c.map NestedKey.num → b = c := fun {b c} e => by
    induction b generalizing c with
    | nil => cases c with
      | nil => rfl
      | cons => cases e
    | cons x b ih => cases c with
      | nil => cases e
      | cons y c =>
        rw [List.map_cons, List.map_cons, List.cons.injEq, NestedKey.num.injEq] at e
        rw [e.1, ih e.2]
  exact this h.1
theorem dEqQ {a b : Rat} {Q : D → Prop} (h : Q (.bool (decide (a = b)))) : dEq (qD a) (qD b) Q := dEqT (α := Rat) h
theorem dInQL {neg : Bool} {i : Rat} {l : List Rat} {Q : D → Prop} (h : Q (.bool (if neg then !decide (i ∈ l) else decide (i ∈ l)))) : dIn neg (qD i) (.list (l.map qD)) Q := by
  have e : (l.map qD).any (fun z => PyData.eqv z (qD i)) = decide (i ∈ l) := by
    rw [List.any_map, Bool.eq_iff_iff, List.any_eq_true, decide_eq_true_iff]
    constructor
    · rintro ⟨x, hx, hc⟩
      have := (Td.inj (α := Rat) x i).mp hc
      rwa [← this]
    · intro h
      exact ⟨i, h, (Td.inj (α := Rat) i i).mpr rfl⟩
  show shp (qD i) ∧ shp (.list _) ∧ Q (.bool (if neg = true then _ else _))
  rw [e]
  exact ⟨td_shp (i : Rat) (by decide), td_shp (α := List Rat) l (by decide), h⟩
def entB (f : Int → Rat) (b d : List Int) : List (NK × D) := (firsts f d).map fun v => (kk2 b v, rowI (d.filter fun x => decide (f x = v)))
theorem lookV_app {l r : List (NK × D)} {k : NK} (h : ∀ p ∈ l, p.1 ≠ k) : lookV (l ++ r) k = lookV r k := by
  unfold lookV
  rw [List.find?_append, List.find?_eq_none.mpr (fun p hp => by simpa using h p hp)]
  rfl
theorem lookV_ent (b : List Int) (g : Rat → D) (v : Rat) : ∀ vs : List Rat, lookV (vs.map fun u => (kk2 b u, g u)) (kk2 b v) = if v ∈ vs then some (g v) else none
  | [] => by rfl
  | u :: vs => by
    have ih := lookV_ent b g v vs
    unfold lookV at ih ⊢
    rw [List.map_cons, List.find?_cons]
    by_cases e : u = v
    · subst e
      rw [decide_eq_true rfl, if_pos List.mem_cons_self]
      rfl
    · have e2 : ¬ kk2 b u = kk2 b v := fun h => e (kk2_inj h).2
      rw [decide_eq_false e2]
      show Option.map _ (List.find? _ _) = _
      rw [ih]
      by_cases c : v ∈ vs
      · rw [if_pos c, if_pos (List.mem_cons_of_mem _ c)]
      · rw [if_neg c, if_neg (fun h => (List.mem_cons.mp h).elim (fun h => e h.symm) c)]
theorem ent_step {f : Int → Rat} {b d : List Int} {x : Int} {l : List (NK × D)} (hl : ∀ p ∈ l, ∀ v, p.1 ≠ kk2 b v) :
    (lookV (l ++ entB f b d) (kk2 b (f x))).getD (.tuple []) = rowI (d.filter fun y => decide (f y = f x)) ∧ putV (l ++ entB f b d) (kk2 b (f x)) (rowI ((d ++ [x]).filter fun y => decide (f y = f x))) = l ++ entB f b (d ++ [x]) := by
  have h1 : lookV (l ++ entB f b d) (kk2 b (f x)) = if f x ∈ firsts f d then some (rowI (d.filter fun y => decide (f y = f x))) else none := by
    rw [lookV_app fun p hp => hl p hp _]
    unfold entB
    rw [lookV_ent b (fun v => rowI (d.filter fun y => decide (f y = v)))]
  unfold putV
  rw [h1]
  by_cases c : f x ∈ firsts f d
  · rw [if_pos c]
    refine ⟨rfl, ?_⟩
    rw [if_pos (by rfl), List.map_append]
    congr 1
    · have : ∀ p ∈ l, (if p.1 = kk2 b (f x) then (p.1, rowI ((d ++ [x]).filter fun y => decide (f y = f x))) else p) = p := fun p hp => if_neg (hl p hp _)
      rw [List.map_congr_left this, List.map_id']
    · unfold entB
      rw [firsts_snoc, if_pos c, List.map_map]
      refine List.map_congr_left fun v hv => ?_
      show (if kk2 b v = kk2 b (f x) then _ else _) = _
      by_cases e : v = f x
      · subst e
        rw [if_pos rfl]
      · rw [if_neg fun h => e (kk2_inj h).2, List.filter_append, List.filter_cons, decide_eq_false fun h => e h.symm]
        simp
  · rw [if_neg c]
    have hnil : (d.filter fun y => decide (f y = f x)) = [] := List.filter_eq_nil_iff.mpr fun y hy => by
      intro h
      exact c (firsts_mem.mpr ⟨y, hy, of_decide_eq_true h⟩)
    refine ⟨by rw [hnil]; rfl, ?_⟩
    rw [if_neg (by simp), List.append_assoc]
    congr 1
    unfold entB
    rw [firsts_snoc, if_neg c, List.map_append]
    congr 1
    refine List.map_congr_left fun v hv => ?_
    have e : ¬ f x = v := fun h => c (h ▸ hv)
    rw [List.filter_append, List.filter_cons, decide_eq_false e]
    simp
section
variable {Γ : Gam} {m : Nat} {bs : List (List Int)}
def entA (f : Int → Rat) (bs : List (List Int)) : List (NK × D) := bs.flatMap fun b => entB f b b
theorem entB_key {f : Int → Rat} {b d : List Int} {p : NK × D} (h : p ∈ entB f b d) : ∃ v, p.1 = kk2 b v := by
  obtain ⟨v, _, rfl⟩ := List.mem_map.mp h
  exact ⟨v, rfl⟩
theorem entB_len (f : Int → Rat) (b d : List Int) : (entB f b d).length ≤ d.length := by
  unfold entB
  rw [List.length_map]
  refine snoc_ind (M := fun d => (firsts f d).length ≤ d.length) (Nat.le_refl _) (fun l a h => ?_) d
  rw [firsts_snoc, List.length_append]
  split
  · omega
  · rw [List.length_append]
    simp only [List.length_cons, List.length_nil]
    omega
theorem entA_len (f : Int → Rat) : ∀ bs : List (List Int), (entA f bs).length ≤ bs.flatten.length
  | [] => Nat.le_refl _
  | b :: bs => by
    have h1 := entA_len f bs
    have h2 := entB_len f b b
    unfold entA at h1 ⊢
    rw [List.flatMap_cons, List.length_append, List.flatten_cons, List.length_append]
    omega
theorem entA_view (f : Int → Rat) (bs : List (List Int)) : (entA f bs).map (·.2) = (prtL f bs).map rowI := by
  unfold entA prtL
  rw [List.map_flatMap, List.map_flatMap]
  congr 1
  funext b
  unfold entB prtB
  rw [List.map_map, List.map_map]
  rfl
theorem prtL_ne (p : Prt m bs) (f : Int → Rat) : ∀ q ∈ prtL f bs, q ≠ [] := fun q hq => (p.parted f).ne q (mem_srt.mpr hq)
theorem prtL_len (p : Prt m bs) (f : Int → Rat) : (prtL f bs).length ≤ m := by
  have := (p.parted f).len
  have e : (prt f bs).length = (prtL f bs).length := (srt_perm _).length_eq
  omega
theorem imp_parted_by (as : List Sl) (P : D → Prop) (PE : Str → Prop) (h : φ_parted_by as P PE) : spW Γ d_parted_by as P PE := by
  obtain ⟨m, bs, told, rfl, m5, p, ht, hP⟩ := h
  refine ⟨rfl, ?_⟩
  have fl := p.flat
  simp only [d_parted_by, true_and, wpSs, wpS, wpE, wpX, wpO, wpC, wpI, ent, kt0, bindT, bindTs, tgsLen, wipeR, constD, owL, List.map_cons, List.map_nil, List.length_cons, List.length_nil, List.replicate, List.cons_append, List.nil_append, Nat.reduceSub, Nat.reduceAdd, List.getElem?_cons_zero, List.getElem?_cons_succ, List.getElem?_nil, List.set_cons_zero, List.set_cons_succ, opF, cmpF, Bi.fd, Option.map_some, if_true, if_false, Bool.true_eq_false, Bool.false_eq_true, reduceIte, Bool.not_true, Bool.not_false, w_some, w_none, w_fz0, w_fz1, w_t0, w_t1, w_t2, w_t3, w_t4, w_add, w_addL, w_addT, w_sub, w_subB, w_mul, w_mulL, w_mulT, w_mod, w_div, w_lt, w_le, w_gt, w_ge, w_is, w_isnt, w_n0, w_n1, w_n2, w_n3, w_n4, w_neg, w_atL, w_atT, w_lenL, w_lenT, w_tupL, w_tupT, w_lisL, w_lisT, w_abs, w_int, w_intB, w_gcd, w_min, w_max, w_seqL, w_seqT, w_augA, w_augS, w_augM, w_intQ, w_lstQ, w_rng1, w_rng2, w_zipL, w_zipT, w_zipM, w_zipN, w_enum, w_enumT, gnD]
  refine forW_inv (I := fun done ρ => ∃ y3 y4 y5, ρ = [some (.fz (.tuple (bs.map rowI))), some (.fz (rowQ told)), some (.od (entA (gw told) done)), y3, y4, y5]) ⟨none, none, none, rfl⟩ (fun done b rest ρ kk el hI hk => ?_) (fun ρ hI => ?_)
  · obtain ⟨y3, y4, y5, rfl⟩ := hI
    have hb : b ∈ bs := by rw [el]; simp
    have nkey : ∀ q ∈ entA (gw told) done, ∀ v, q.1 ≠ kk2 b v := fun q hq v e => by
      obtain ⟨c, hc, hqc⟩ := List.mem_flatMap.mp hq
      obtain ⟨u, hu⟩ := entB_key hqc
      have ebc := (kk2_inj (hu.symm.trans e)).1
      subst ebc
      have hd := p.dis
      rw [el, List.pairwise_append] at hd
      cases hcc : c with
      | nil => exact p.ne c hb hcc
      | cons z r =>
        have hz : z ∈ c := by rw [hcc]; exact List.mem_cons_self
        exact hd.2.2 c hc c List.mem_cons_self z hz hz
    have lb : (entA (gw told) done).length + b.length ≤ m := by
      have h1 := entA_len (gw told) done
      rw [el, List.flatten_append, List.length_append, List.flatten_cons, List.length_append] at fl
      omega
    have eL : entA (gw told) (done ++ [b]) = entA (gw told) done ++ entB (gw told) b b := by
      unfold entA
      rw [List.flatMap_append, List.flatMap_cons, List.flatMap_nil, List.append_nil]
    rw [eL] at hk
    generalize entA (gw told) done = l at *
    simp only [true_and, wpSs, wpS, wpE, wpX, wpO, wpC, wpI, ent, kt0, bindT, bindTs, tgsLen, wipeR, constD, owL, List.map_cons, List.map_nil, List.length_cons, List.length_nil, List.replicate, List.cons_append, List.nil_append, Nat.reduceSub, Nat.reduceAdd, List.getElem?_cons_zero, List.getElem?_cons_succ, List.getElem?_nil, List.set_cons_zero, List.set_cons_succ, opF, cmpF, Bi.fd, Option.map_some, if_true, if_false, Bool.true_eq_false, Bool.false_eq_true, reduceIte, Bool.not_true, Bool.not_false, w_some, w_none, w_fz0, w_fz1, w_t0, w_t1, w_t2, w_t3, w_t4, w_add, w_addL, w_addT, w_sub, w_subB, w_mul, w_mulL, w_mulT, w_mod, w_div, w_lt, w_le, w_gt, w_ge, w_is, w_isnt, w_n0, w_n1, w_n2, w_n3, w_n4, w_neg, w_atL, w_atT, w_lenL, w_lenT, w_tupL, w_tupT, w_lisL, w_lisT, w_abs, w_int, w_intB, w_gcd, w_min, w_max, w_seqL, w_seqT, w_augA, w_augS, w_augM, w_intQ, w_lstQ, w_rng1, w_rng2, w_zipL, w_zipT, w_zipM, w_zipN, w_enum, w_enumT, rowI]
    refine forW_inv (I := fun d ρ => ∃ y4 y5, ρ = [some (.fz (.tuple (bs.map rowI))), some (.fz (rowQ told)), some (.od (l ++ entB (gw told) b d)), some (.fz (rowI b)), y4, y5]) ⟨y4, y5, by rw [show entB (gw told) b [] = [] from rfl, List.append_nil]; rfl⟩ (fun d x rest2 ρ k2 e2 hI hk2 => ?_) (fun ρ hI => ?_)
    · obtain ⟨y4, y5, rfl⟩ := hI
      have hx : x ∈ b := by rw [e2]; simp
      have hr := p.rng b hb x hx
      have ld : d.length < b.length := by rw [e2]; simp
      have ea := at_gw (l := told) hr.1 (by omega)
      obtain ⟨s1, s2⟩ := ent_step (f := gw told) (b := b) (d := d) (x := x) nkey
      have ek : keyT (.tuple [.tuple (b.map PyData.int), qD (gw told x)]) = some (kk2 b (gw told x)) := keyT_kk _ _
      simp only [true_and, wpSs, wpS, wpE, wpX, wpO, wpC, wpI, ent, kt0, bindT, bindTs, tgsLen, wipeR, constD, owL, List.map_cons, List.map_nil, List.length_cons, List.length_nil, List.replicate, List.cons_append, List.nil_append, Nat.reduceSub, Nat.reduceAdd, List.getElem?_cons_zero, List.getElem?_cons_succ, List.getElem?_nil, List.set_cons_zero, List.set_cons_succ, opF, cmpF, Bi.fd, Option.map_some, if_true, if_false, Bool.true_eq_false, Bool.false_eq_true, reduceIte, Bool.not_true, Bool.not_false, w_some, w_none, w_fz0, w_fz1, w_t0, w_t1, w_t2, w_t3, w_t4, w_add, w_addL, w_addT, w_sub, w_subB, w_mul, w_mulL, w_mulT, w_mod, w_div, w_lt, w_le, w_gt, w_ge, w_is, w_isnt, w_n0, w_n1, w_n2, w_n3, w_n4, w_neg, w_atL, w_atT, w_lenL, w_lenT, w_tupL, w_tupT, w_lisL, w_lisT, w_abs, w_int, w_intB, w_gcd, w_min, w_max, w_seqL, w_seqT, w_augA, w_augS, w_augM, w_intQ, w_lstQ, w_rng1, w_rng2, w_zipL, w_zipT, w_zipM, w_zipN, w_enum, w_enumT, rowQ, ea, ek, odL, s1, rowI]
      have ll := entB_len (gw told) b d
      have lf := List.length_filter_le (fun y => decide (gw told y = gw told x)) d
      have lb5 := p.blen hb
      refine ⟨by rw [List.length_map]; exact small (by omega), by rw [List.length_append]; exact small1000 (by omega), hk2 _ ⟨some (.fz (.int x)), some (.fz (.tuple [.tuple (b.map PyData.int), qD (gw told x)])), ?_⟩⟩
      rw [← s2]
      have e3 : rowI ((d ++ [x]).filter fun y => decide (gw told y = gw told x)) = .tuple ((d.filter fun y => decide (gw told y = gw told x)).map PyData.int ++ [.int x]) := by
        rw [List.filter_append, List.filter_cons, decide_eq_true rfl, if_pos rfl]
        unfold rowI
        rw [List.map_append]
        rfl
      rw [e3]
      rfl
    · obtain ⟨y4, y5, rfl⟩ := hI
      exact hk _ ⟨_, _, _, rfl⟩
  · obtain ⟨y3, y4, y5, rfl⟩ := hI
    simp only [true_and, wpSs, wpS, wpE, wpX, wpO, wpC, wpI, ent, kt0, bindT, bindTs, tgsLen, wipeR, constD, owL, List.map_cons, List.map_nil, List.length_cons, List.length_nil, List.replicate, List.cons_append, List.nil_append, Nat.reduceSub, Nat.reduceAdd, List.getElem?_cons_zero, List.getElem?_cons_succ, List.getElem?_nil, List.set_cons_zero, List.set_cons_succ, opF, cmpF, Bi.fd, Option.map_some, if_true, if_false, Bool.true_eq_false, Bool.false_eq_true, reduceIte, Bool.not_true, Bool.not_false, w_some, w_none, w_fz0, w_fz1, w_t0, w_t1, w_t2, w_t3, w_t4, w_add, w_addL, w_addT, w_sub, w_subB, w_mul, w_mulL, w_mulT, w_mod, w_div, w_lt, w_le, w_gt, w_ge, w_is, w_isnt, w_n0, w_n1, w_n2, w_n3, w_n4, w_neg, w_atL, w_atT, w_lenL, w_lenT, w_tupL, w_tupT, w_lisL, w_lisT, w_abs, w_int, w_intB, w_gcd, w_min, w_max, w_seqL, w_seqT, w_augA, w_augS, w_augM, w_intQ, w_lstQ, w_rng1, w_rng2, w_zipL, w_zipT, w_zipM, w_zipN, w_enum, w_enumT, viewD, entA_view]
    have := prtL_len p (gw told)
    refine ⟨sortOk_rows (prtL_ne p _) (small (by omega)), ?_⟩
    rw [sortD_rows]
    exact hP
theorem imp__law_parted (as : List Sl) (P : D → Prop) (PE : Str → Prop) (h : φ__law_parted as P PE) : spW Γ d__law_parted as P PE := by
  obtain ⟨m, bs, told, rfl, m5, p, ht, hP⟩ := h
  refine ⟨rfl, ?_⟩
  have fl := p.flat
  simp only [d__law_parted, true_and, wpSs, wpS, wpE, wpX, wpO, wpC, wpI, ent, kt0, bindT, bindTs, tgsLen, wipeR, constD, owL, List.map_cons, List.map_nil, List.length_cons, List.length_nil, List.replicate, List.cons_append, List.nil_append, Nat.reduceSub, Nat.reduceAdd, List.getElem?_cons_zero, List.getElem?_cons_succ, List.getElem?_nil, List.set_cons_zero, List.set_cons_succ, opF, cmpF, Bi.fd, Option.map_some, if_true, if_false, Bool.true_eq_false, Bool.false_eq_true, reduceIte, Bool.not_true, Bool.not_false, w_some, w_none, w_fz0, w_fz1, w_t0, w_t1, w_t2, w_t3, w_t4, w_add, w_addL, w_addT, w_sub, w_subB, w_mul, w_mulL, w_mulT, w_mod, w_div, w_lt, w_le, w_gt, w_ge, w_is, w_isnt, w_n0, w_n1, w_n2, w_n3, w_n4, w_neg, w_atL, w_atT, w_lenL, w_lenT, w_tupL, w_tupT, w_lisL, w_lisT, w_abs, w_int, w_intB, w_gcd, w_min, w_max, w_seqL, w_seqT, w_augA, w_augS, w_augM, w_intQ, w_lstQ, w_rng1, w_rng2, w_zipL, w_zipT, w_zipM, w_zipN, w_enum, w_enumT, gnD]
  refine forW_inv (I := fun done ρ => ∃ y3 y4 y5 y6, ρ = [some (.fz (.tuple (bs.map rowI))), some (.fz (rowQ told)), some (.fz (.list ((prtL (gw told) done).map rowI))), y3, y4, y5, y6]) ⟨none, none, none, none, rfl⟩ (fun done b rest ρ kk el hI hk => ?_) (fun ρ hI => ?_)
  · obtain ⟨y3, y4, y5, y6, rfl⟩ := hI
    have hb : b ∈ bs := by rw [el]; simp
    have lb5 := p.blen hb
    have lB : ∀ d, (firsts (gw told) d).length ≤ d.length := fun d => by have := entB_len (gw told) b d; unfold entB at this; rwa [List.length_map] at this
    have ld : (prtL (gw told) done).length ≤ m := by
      have h1 : ∀ l, (prtL (gw told) l).length ≤ l.flatten.length := fun l => by
        have := entA_len (gw told) l
        have e := congrArg List.length (entA_view (gw told) l)
        rw [List.length_map, List.length_map] at e
        omega
      have := h1 done
      rw [el, List.flatten_append, List.length_append] at fl
      omega
    have eL : prtL (gw told) (done ++ [b]) = prtL (gw told) done ++ prtB (gw told) b := by
      unfold prtL
      rw [List.flatMap_append, List.flatMap_cons, List.flatMap_nil, List.append_nil]
    rw [eL] at hk
    generalize prtL (gw told) done = l at *
    simp only [true_and, wpSs, wpS, wpE, wpX, wpO, wpC, wpI, ent, kt0, bindT, bindTs, tgsLen, wipeR, constD, owL, List.map_cons, List.map_nil, List.length_cons, List.length_nil, List.replicate, List.cons_append, List.nil_append, Nat.reduceSub, Nat.reduceAdd, List.getElem?_cons_zero, List.getElem?_cons_succ, List.getElem?_nil, List.set_cons_zero, List.set_cons_succ, opF, cmpF, Bi.fd, Option.map_some, if_true, if_false, Bool.true_eq_false, Bool.false_eq_true, reduceIte, Bool.not_true, Bool.not_false, w_some, w_none, w_fz0, w_fz1, w_t0, w_t1, w_t2, w_t3, w_t4, w_add, w_addL, w_addT, w_sub, w_subB, w_mul, w_mulL, w_mulT, w_mod, w_div, w_lt, w_le, w_gt, w_ge, w_is, w_isnt, w_n0, w_n1, w_n2, w_n3, w_n4, w_neg, w_atL, w_atT, w_lenL, w_lenT, w_tupL, w_tupT, w_lisL, w_lisT, w_abs, w_int, w_intB, w_gcd, w_min, w_max, w_seqL, w_seqT, w_augA, w_augS, w_augM, w_intQ, w_lstQ, w_rng1, w_rng2, w_zipL, w_zipT, w_zipM, w_zipN, w_enum, w_enumT, rowI]
    refine forW_inv (I := fun d ρ => ∃ y5, ρ = [some (.fz (.tuple (bs.map rowI))), some (.fz (rowQ told)), some (.fz (.list (l.map rowI))), some (.fz (rowI b)), some (.ow (.list ((firsts (gw told) d).map qD))), y5, y6]) ⟨y5, rfl⟩ (fun d x rest2 ρ k2 e2 hI hk2 => ?_) (fun ρ hI => ?_)
    · obtain ⟨y5, rfl⟩ := hI
      have hx : x ∈ b := by rw [e2]; simp
      have hr := p.rng b hb x hx
      have ldb : d.length < b.length := by rw [e2]; simp
      have ea := at_gw (l := told) hr.1 (by omega)
      have := lB d
      rw [firsts_snoc] at hk2
      simp only [true_and, wpSs, wpS, wpE, wpX, wpO, wpC, wpI, ent, kt0, bindT, bindTs, tgsLen, wipeR, constD, owL, List.map_cons, List.map_nil, List.length_cons, List.length_nil, List.replicate, List.cons_append, List.nil_append, Nat.reduceSub, Nat.reduceAdd, List.getElem?_cons_zero, List.getElem?_cons_succ, List.getElem?_nil, List.set_cons_zero, List.set_cons_succ, opF, cmpF, Bi.fd, Option.map_some, if_true, if_false, Bool.true_eq_false, Bool.false_eq_true, reduceIte, Bool.not_true, Bool.not_false, w_some, w_none, w_fz0, w_fz1, w_t0, w_t1, w_t2, w_t3, w_t4, w_add, w_addL, w_addT, w_sub, w_subB, w_mul, w_mulL, w_mulT, w_mod, w_div, w_lt, w_le, w_gt, w_ge, w_is, w_isnt, w_n0, w_n1, w_n2, w_n3, w_n4, w_neg, w_atL, w_atT, w_lenL, w_lenT, w_tupL, w_tupT, w_lisL, w_lisT, w_abs, w_int, w_intB, w_gcd, w_min, w_max, w_seqL, w_seqT, w_augA, w_augS, w_augM, w_intQ, w_lstQ, w_rng1, w_rng2, w_zipL, w_zipT, w_zipM, w_zipN, w_enum, w_enumT, rowQ, ea]
      refine dInQL ?_
      by_cases c : gw told x ∈ firsts (gw told) d
      · rw [if_pos c] at hk2
        rw [decide_eq_true c]
        simp only [true_and, wpSs, wpS, wpE, wpX, wpO, wpC, wpI, ent, kt0, bindT, bindTs, tgsLen, wipeR, constD, owL, List.map_cons, List.map_nil, List.length_cons, List.length_nil, List.replicate, List.cons_append, List.nil_append, Nat.reduceSub, Nat.reduceAdd, List.getElem?_cons_zero, List.getElem?_cons_succ, List.getElem?_nil, List.set_cons_zero, List.set_cons_succ, opF, cmpF, Bi.fd, Option.map_some, if_true, if_false, Bool.true_eq_false, Bool.false_eq_true, reduceIte, Bool.not_true, Bool.not_false, w_some, w_none, w_fz0, w_fz1, w_t0, w_t1, w_t2, w_t3, w_t4, w_add, w_addL, w_addT, w_sub, w_subB, w_mul, w_mulL, w_mulT, w_mod, w_div, w_lt, w_le, w_gt, w_ge, w_is, w_isnt, w_n0, w_n1, w_n2, w_n3, w_n4, w_neg, w_atL, w_atT, w_lenL, w_lenT, w_tupL, w_tupT, w_lisL, w_lisT, w_abs, w_int, w_intB, w_gcd, w_min, w_max, w_seqL, w_seqT, w_augA, w_augS, w_augM, w_intQ, w_lstQ, w_rng1, w_rng2, w_zipL, w_zipT, w_zipM, w_zipN, w_enum, w_enumT]
        exact hk2 _ ⟨_, rfl⟩
      · rw [if_neg c, List.map_append] at hk2
        rw [decide_eq_false c]
        simp only [true_and, wpSs, wpS, wpE, wpX, wpO, wpC, wpI, ent, kt0, bindT, bindTs, tgsLen, wipeR, constD, owL, List.map_cons, List.map_nil, List.length_cons, List.length_nil, List.replicate, List.cons_append, List.nil_append, Nat.reduceSub, Nat.reduceAdd, List.getElem?_cons_zero, List.getElem?_cons_succ, List.getElem?_nil, List.set_cons_zero, List.set_cons_succ, opF, cmpF, Bi.fd, Option.map_some, if_true, if_false, Bool.true_eq_false, Bool.false_eq_true, reduceIte, Bool.not_true, Bool.not_false, w_some, w_none, w_fz0, w_fz1, w_t0, w_t1, w_t2, w_t3, w_t4, w_add, w_addL, w_addT, w_sub, w_subB, w_mul, w_mulL, w_mulT, w_mod, w_div, w_lt, w_le, w_gt, w_ge, w_is, w_isnt, w_n0, w_n1, w_n2, w_n3, w_n4, w_neg, w_atL, w_atT, w_lenL, w_lenT, w_tupL, w_tupT, w_lisL, w_lisT, w_abs, w_int, w_intB, w_gcd, w_min, w_max, w_seqL, w_seqT, w_augA, w_augS, w_augM, w_intQ, w_lstQ, w_rng1, w_rng2, w_zipL, w_zipT, w_zipM, w_zipN, w_enum, w_enumT, ea]
        refine ⟨by rw [List.length_map]; exact small1000 (by omega), hk2 _ ⟨_, rfl⟩⟩
    · obtain ⟨y5, rfl⟩ := hI
      have := lB b
      simp only [true_and, wpSs, wpS, wpE, wpX, wpO, wpC, wpI, ent, kt0, bindT, bindTs, tgsLen, wipeR, constD, owL, List.map_cons, List.map_nil, List.length_cons, List.length_nil, List.replicate, List.cons_append, List.nil_append, Nat.reduceSub, Nat.reduceAdd, List.getElem?_cons_zero, List.getElem?_cons_succ, List.getElem?_nil, List.set_cons_zero, List.set_cons_succ, opF, cmpF, Bi.fd, Option.map_some, if_true, if_false, Bool.true_eq_false, Bool.false_eq_true, reduceIte, Bool.not_true, Bool.not_false, w_some, w_none, w_fz0, w_fz1, w_t0, w_t1, w_t2, w_t3, w_t4, w_add, w_addL, w_addT, w_sub, w_subB, w_mul, w_mulL, w_mulT, w_mod, w_div, w_lt, w_le, w_gt, w_ge, w_is, w_isnt, w_n0, w_n1, w_n2, w_n3, w_n4, w_neg, w_atL, w_atT, w_lenL, w_lenT, w_tupL, w_tupT, w_lisL, w_lisT, w_abs, w_int, w_intB, w_gcd, w_min, w_max, w_seqL, w_seqT, w_augA, w_augS, w_augM, w_intQ, w_lstQ, w_rng1, w_rng2, w_zipL, w_zipT, w_zipM, w_zipN, w_enum, w_enumT]
      refine ⟨by rw [List.length_map]; exact small (by omega), ?_⟩
      refine foldW_map (fun v => rowI (b.filter fun x => decide (gw told x = v))) (fun v acc k3 hv hk3 => ?_) ?_
      · simp only [true_and, wpSs, wpS, wpE, wpX, wpO, wpC, wpI, ent, kt0, bindT, bindTs, tgsLen, wipeR, constD, owL, List.map_cons, List.map_nil, List.length_cons, List.length_nil, List.replicate, List.cons_append, List.nil_append, Nat.reduceSub, Nat.reduceAdd, List.getElem?_cons_zero, List.getElem?_cons_succ, List.getElem?_nil, List.set_cons_zero, List.set_cons_succ, opF, cmpF, Bi.fd, Option.map_some, if_true, if_false, Bool.true_eq_false, Bool.false_eq_true, reduceIte, Bool.not_true, Bool.not_false, w_some, w_none, w_fz0, w_fz1, w_t0, w_t1, w_t2, w_t3, w_t4, w_add, w_addL, w_addT, w_sub, w_subB, w_mul, w_mulL, w_mulT, w_mod, w_div, w_lt, w_le, w_gt, w_ge, w_is, w_isnt, w_n0, w_n1, w_n2, w_n3, w_n4, w_neg, w_atL, w_atT, w_lenL, w_lenT, w_tupL, w_tupT, w_lisL, w_lisT, w_abs, w_int, w_intB, w_gcd, w_min, w_max, w_seqL, w_seqT, w_augA, w_augS, w_augM, w_intQ, w_lstQ, w_rng1, w_rng2, w_zipL, w_zipT, w_zipM, w_zipN, w_enum, w_enumT, rowI]
        refine ⟨by rw [List.length_map]; exact small (by omega), ?_⟩
        refine foldW_filter (fun x => decide (gw told x = v)) (fun x => PyData.int x) (fun x acc k4 hx hk4 => ?_) ?_
        · have hr := p.rng b hb x hx
          have ea := at_gw (l := told) hr.1 (by omega)
          simp only [true_and, wpSs, wpS, wpE, wpX, wpO, wpC, wpI, ent, kt0, bindT, bindTs, tgsLen, wipeR, constD, owL, List.map_cons, List.map_nil, List.length_cons, List.length_nil, List.replicate, List.cons_append, List.nil_append, Nat.reduceSub, Nat.reduceAdd, List.getElem?_cons_zero, List.getElem?_cons_succ, List.getElem?_nil, List.set_cons_zero, List.set_cons_succ, opF, cmpF, Bi.fd, Option.map_some, if_true, if_false, Bool.true_eq_false, Bool.false_eq_true, reduceIte, Bool.not_true, Bool.not_false, w_some, w_none, w_fz0, w_fz1, w_t0, w_t1, w_t2, w_t3, w_t4, w_add, w_addL, w_addT, w_sub, w_subB, w_mul, w_mulL, w_mulT, w_mod, w_div, w_lt, w_le, w_gt, w_ge, w_is, w_isnt, w_n0, w_n1, w_n2, w_n3, w_n4, w_neg, w_atL, w_atT, w_lenL, w_lenT, w_tupL, w_tupT, w_lisL, w_lisT, w_abs, w_int, w_intB, w_gcd, w_min, w_max, w_seqL, w_seqT, w_augA, w_augS, w_augM, w_intQ, w_lstQ, w_rng1, w_rng2, w_zipL, w_zipT, w_zipM, w_zipN, w_enum, w_enumT, rowQ, ea]
          exact dEqQ (kif hk4)
        · exact hk3
      · refine ⟨by rw [List.length_map, List.length_map]; exact small (by omega), ?_⟩
        rw [List.map_append] at hk
        unfold prtB at hk
        rw [List.map_map] at hk
        exact hk _ ⟨_, _, _, _, rfl⟩
  · obtain ⟨y3, y4, y5, y6, rfl⟩ := hI
    simp only [true_and, wpSs, wpS, wpE, wpX, wpO, wpC, wpI, ent, kt0, bindT, bindTs, tgsLen, wipeR, constD, owL, List.map_cons, List.map_nil, List.length_cons, List.length_nil, List.replicate, List.cons_append, List.nil_append, Nat.reduceSub, Nat.reduceAdd, List.getElem?_cons_zero, List.getElem?_cons_succ, List.getElem?_nil, List.set_cons_zero, List.set_cons_succ, opF, cmpF, Bi.fd, Option.map_some, if_true, if_false, Bool.true_eq_false, Bool.false_eq_true, reduceIte, Bool.not_true, Bool.not_false, w_some, w_none, w_fz0, w_fz1, w_t0, w_t1, w_t2, w_t3, w_t4, w_add, w_addL, w_addT, w_sub, w_subB, w_mul, w_mulL, w_mulT, w_mod, w_div, w_lt, w_le, w_gt, w_ge, w_is, w_isnt, w_n0, w_n1, w_n2, w_n3, w_n4, w_neg, w_atL, w_atT, w_lenL, w_lenT, w_tupL, w_tupT, w_lisL, w_lisT, w_abs, w_int, w_intB, w_gcd, w_min, w_max, w_seqL, w_seqT, w_augA, w_augS, w_augM, w_intQ, w_lstQ, w_rng1, w_rng2, w_zipL, w_zipT, w_zipM, w_zipN, w_enum, w_enumT]
    have := prtL_len p (gw told)
    refine dSorted_rows (prtL_ne p _) (small (by omega)) ?_
    exact hP
end
end DL

set_option Elab.async false
set_option linter.all false
set_option maxRecDepth 100000
set_option maxHeartbeats 4000000
namespace DL
open PySem PySem.Spec PyProof.Rows L2
structure Bk where
  l : Bs
  deriving DecidableEq
theorem gnD_tu (bs : Bs) : gnD bs = Td.d (⟨bs.map Tu.mk⟩ : Tu (Tu Int)) := by
  show PyData.tuple _ = PyData.tuple ((bs.map Tu.mk).map Td.d)
  rw [List.map_map]
  rfl
instance : Td Bk where
  d x := gnD x.l
  inj x y := by
    cases x; cases y
    rename_i a b
    rw [gnD_tu, gnD_tu, Td.inj]
    constructor
    · intro h
      injection h with h
      congr 1
      exact (List.map_inj_right (f := Tu.mk) (fun x y e => by injection e)).mp h
    · intro h
      injection h with h
      rw [h]
  lay x := by rw [gnD_tu]; exact Td.lay _
  dp := 2
  le x := by rw [gnD_tu]; exact Td.le (α := Tu (Tu Int)) _
def toBk (s : Bs × Bs) : Bk × Bk := (⟨s.1⟩, ⟨s.2⟩)
theorem toBk_inj {s t : Bs × Bs} (h : toBk s = toBk t) : s = t := by
  have h1 : s.1 = t.1 := congrArg (fun p : Bk × Bk => p.1.l) h
  have h2 : s.2 = t.2 := congrArg (fun p : Bk × Bk => p.2.l) h
  exact Prod.ext h1 h2
theorem stD_td (s : Bs × Bs) : stD s = Td.d (toBk s) := rfl
theorem dEqS2 {s t : Bs × Bs} {Q : D → Prop} (h : Q (.bool (decide (s = t)))) : dEq (stD s) (stD t) Q := by
  rw [stD_td, stD_td]
  refine dEqT ?_
  rw [show decide (toBk s = toBk t) = decide (s = t) from decide_eq_decide.mpr ⟨toBk_inj, fun e => by rw [e]⟩]
  exact h
theorem dNeS2 {s t : Bs × Bs} {Q : D → Prop} (h : Q (.bool (!decide (s = t)))) : dNe (stD s) (stD t) Q := by
  rw [stD_td, stD_td]
  refine dNeT ?_
  rw [show decide (toBk s = toBk t) = decide (s = t) from decide_eq_decide.mpr ⟨toBk_inj, fun e => by rw [e]⟩]
  exact h
section
variable {Γ : Gam} {m : Nat} {bs : List (List Int)}
theorem ops_len (w : List Rat) (bs : Bs) (ev : List Int) : (ops w bs ev).length = w.length := by
  unfold ops
  rw [List.length_map, List.length_range]
theorem at_its (w : List Rat) (ev : List Int) (s : Bs × Bs) (n : Nat) : atI ((its w ev s n).map stD) (-1) = some (stD (itr w ev s n)) := by
  unfold its
  rw [List.map_append]
  exact atI_last1 _ _
theorem its_len (w : List Rat) (ev : List Int) (s : Bs × Bs) (n : Nat) : (its w ev s n).length = n + 1 := by
  unfold its
  rw [List.length_append, List.length_map, List.length_range]
  rfl
theorem imp_talk (e1 : Γ.Φ "opinions" = φ_opinions) (e2 : Γ.Φ "parted_by" = φ_parted_by) (as : List Sl) (P : D → Prop) (PE : Str → Prop) (h : φ_talk as P PE) : spW Γ d_talk as P PE := by
  obtain ⟨m, w, s, ev, rfl, hw, he, hs, hP⟩ := h
  refine ⟨rfl, ?_⟩
  simp only [d_talk, true_and, wpSs, wpS, wpE, wpX, wpO, wpC, wpI, ent, kt0, bindT, bindTs, tgsLen, wipeR, constD, owL, List.map_cons, List.map_nil, List.length_cons, List.length_nil, List.replicate, List.cons_append, List.nil_append, Nat.reduceSub, Nat.reduceAdd, List.getElem?_cons_zero, List.getElem?_cons_succ, List.getElem?_nil, List.set_cons_zero, List.set_cons_succ, opF, cmpF, Bi.fd, Option.map_some, if_true, if_false, Bool.true_eq_false, Bool.false_eq_true, reduceIte, Bool.not_true, Bool.not_false, w_some, w_none, w_fz0, w_fz1, w_t0, w_t1, w_t2, w_t3, w_t4, w_add, w_addL, w_addT, w_sub, w_subB, w_mul, w_mulL, w_mulT, w_mod, w_div, w_lt, w_le, w_gt, w_ge, w_is, w_isnt, w_n0, w_n1, w_n2, w_n3, w_n4, w_neg, w_atL, w_atT, w_lenL, w_lenT, w_tupL, w_tupT, w_lisL, w_lisT, w_abs, w_int, w_intB, w_gcd, w_min, w_max, w_seqL, w_seqT, w_augA, w_augS, w_augM, w_intQ, w_lstQ, w_rng1, w_rng2, w_zipL, w_zipT, w_zipM, w_zipN, w_enum, w_enumT, e1, e2]
  refine ⟨fun k ρ => ∃ n y5 y6 y7 y8 y9, Mov w ev s n ∧ k = 2 * m - n ∧ ρ = [some (.fz (rowQ w)), some (.fz (gnD s.1)), some (.fz (gnD s.2)), some (.fz (rowI ev)), some (.ow (.list ((its w ev s n).map stD))), y5, y6, y7, y8, y9], ⟨2 * m, 0, none, none, none, none, none, fun i hi => absurd hi (by omega), rfl, rfl⟩, ?_⟩
  rintro k ρ ⟨n, y5, y6, y7, y8, y9, hm, rfl, rfl⟩
  have hn := Mov.le hs hm
  have h := hs.itr (w := w) (ev := ev) n
  have ea := at_its w ev s n
  have el := its_len w ev s n
  have es := its_snoc w ev s n
  have hsn := hm.snoc
  have hP := hP n
  have hst : step w ev (itr w ev s n) = (prt (gw (ops w (itr w ev s n).2 ev)) (itr w ev s n).1, prt (gw (ops w (itr w ev s n).1 ev)) (itr w ev s n).2) := rfl
  unfold Rest at hP
  generalize its w ev s n = rows at *
  have m5 := hw.m5
  simp only [true_and, wpSs, wpS, wpE, wpX, wpO, wpC, wpI, ent, kt0, bindT, bindTs, tgsLen, wipeR, constD, owL, List.map_cons, List.map_nil, List.length_cons, List.length_nil, List.replicate, List.cons_append, List.nil_append, Nat.reduceSub, Nat.reduceAdd, List.getElem?_cons_zero, List.getElem?_cons_succ, List.getElem?_nil, List.set_cons_zero, List.set_cons_succ, opF, cmpF, Bi.fd, Option.map_some, if_true, if_false, Bool.true_eq_false, Bool.false_eq_true, reduceIte, Bool.not_true, Bool.not_false, w_some, w_none, w_fz0, w_fz1, w_t0, w_t1, w_t2, w_t3, w_t4, w_add, w_addL, w_addT, w_sub, w_subB, w_mul, w_mulL, w_mulT, w_mod, w_div, w_lt, w_le, w_gt, w_ge, w_is, w_isnt, w_n0, w_n1, w_n2, w_n3, w_n4, w_neg, w_atL, w_atT, w_lenL, w_lenT, w_tupL, w_tupT, w_lisL, w_lisT, w_abs, w_int, w_intB, w_gcd, w_min, w_max, w_seqL, w_seqT, w_augA, w_augS, w_augM, w_intQ, w_lstQ, w_rng1, w_rng2, w_zipL, w_zipT, w_zipM, w_zipN, w_enum, w_enumT, ea]
  generalize itr w ev s n = t at *
  simp only [stD, true_and, wpSs, wpS, wpE, wpX, wpO, wpC, wpI, ent, kt0, bindT, bindTs, tgsLen, wipeR, constD, owL, List.map_cons, List.map_nil, List.length_cons, List.length_nil, List.replicate, List.cons_append, List.nil_append, Nat.reduceSub, Nat.reduceAdd, List.getElem?_cons_zero, List.getElem?_cons_succ, List.getElem?_nil, List.set_cons_zero, List.set_cons_succ, opF, cmpF, Bi.fd, Option.map_some, if_true, if_false, Bool.true_eq_false, Bool.false_eq_true, reduceIte, Bool.not_true, Bool.not_false, w_some, w_none, w_fz0, w_fz1, w_t0, w_t1, w_t2, w_t3, w_t4, w_add, w_addL, w_addT, w_sub, w_subB, w_mul, w_mulL, w_mulT, w_mod, w_div, w_lt, w_le, w_gt, w_ge, w_is, w_isnt, w_n0, w_n1, w_n2, w_n3, w_n4, w_neg, w_atL, w_atT, w_lenL, w_lenT, w_tupL, w_tupT, w_lisL, w_lisT, w_abs, w_int, w_intB, w_gcd, w_min, w_max, w_seqL, w_seqT, w_augA, w_augS, w_augM, w_intQ, w_lstQ, w_rng1, w_rng2, w_zipL, w_zipT, w_zipM, w_zipN, w_enum, w_enumT]
  refine ⟨m, w, t.1, ev, rfl, hw, he, h.p1, ?_⟩
  refine ⟨m, w, t.2, ev, rfl, hw, he, h.p2, ?_⟩
  simp only [true_and, wpSs, wpS, wpE, wpX, wpO, wpC, wpI, ent, kt0, bindT, bindTs, tgsLen, wipeR, constD, owL, List.map_cons, List.map_nil, List.length_cons, List.length_nil, List.replicate, List.cons_append, List.nil_append, Nat.reduceSub, Nat.reduceAdd, List.getElem?_cons_zero, List.getElem?_cons_succ, List.getElem?_nil, List.set_cons_zero, List.set_cons_succ, opF, cmpF, Bi.fd, Option.map_some, if_true, if_false, Bool.true_eq_false, Bool.false_eq_true, reduceIte, Bool.not_true, Bool.not_false, w_some, w_none, w_fz0, w_fz1, w_t0, w_t1, w_t2, w_t3, w_t4, w_add, w_addL, w_addT, w_sub, w_subB, w_mul, w_mulL, w_mulT, w_mod, w_div, w_lt, w_le, w_gt, w_ge, w_is, w_isnt, w_n0, w_n1, w_n2, w_n3, w_n4, w_neg, w_atL, w_atT, w_lenL, w_lenT, w_tupL, w_tupT, w_lisL, w_lisT, w_abs, w_int, w_intB, w_gcd, w_min, w_max, w_seqL, w_seqT, w_augA, w_augS, w_augM, w_intQ, w_lstQ, w_rng1, w_rng2, w_zipL, w_zipT, w_zipM, w_zipN, w_enum, w_enumT]
  refine ⟨m, t.1, _, rfl, m5, h.p1, by rw [ops_len, hw.len], ?_⟩
  refine ⟨m, t.2, _, rfl, m5, h.p2, by rw [ops_len, hw.len], ?_⟩
  simp only [true_and, wpSs, wpS, wpE, wpX, wpO, wpC, wpI, ent, kt0, bindT, bindTs, tgsLen, wipeR, constD, owL, List.map_cons, List.map_nil, List.length_cons, List.length_nil, List.replicate, List.cons_append, List.nil_append, Nat.reduceSub, Nat.reduceAdd, List.getElem?_cons_zero, List.getElem?_cons_succ, List.getElem?_nil, List.set_cons_zero, List.set_cons_succ, opF, cmpF, Bi.fd, Option.map_some, if_true, if_false, Bool.true_eq_false, Bool.false_eq_true, reduceIte, Bool.not_true, Bool.not_false, w_some, w_none, w_fz0, w_fz1, w_t0, w_t1, w_t2, w_t3, w_t4, w_add, w_addL, w_addT, w_sub, w_subB, w_mul, w_mulL, w_mulT, w_mod, w_div, w_lt, w_le, w_gt, w_ge, w_is, w_isnt, w_n0, w_n1, w_n2, w_n3, w_n4, w_neg, w_atL, w_atT, w_lenL, w_lenT, w_tupL, w_tupT, w_lisL, w_lisT, w_abs, w_int, w_intB, w_gcd, w_min, w_max, w_seqL, w_seqT, w_augA, w_augS, w_augM, w_intQ, w_lstQ, w_rng1, w_rng2, w_zipL, w_zipT, w_zipM, w_zipN, w_enum, w_enumT, ea]
  have e3 : PyData.tuple [gnD (prt (gw (ops w t.2 ev)) t.1), gnD (prt (gw (ops w t.1 ev)) t.2)] = stD (step w ev t) := rfl
  rw [e3]
  refine dEqS2 ?_
  by_cases c : step w ev t = t
  · rw [decide_eq_true c]
    simp only [true_and, wpSs, wpS, wpE, wpX, wpO, wpC, wpI, ent, kt0, bindT, bindTs, tgsLen, wipeR, constD, owL, List.map_cons, List.map_nil, List.length_cons, List.length_nil, List.replicate, List.cons_append, List.nil_append, Nat.reduceSub, Nat.reduceAdd, List.getElem?_cons_zero, List.getElem?_cons_succ, List.getElem?_nil, List.set_cons_zero, List.set_cons_succ, opF, cmpF, Bi.fd, Option.map_some, if_true, if_false, Bool.true_eq_false, Bool.false_eq_true, reduceIte, Bool.not_true, Bool.not_false, w_some, w_none, w_fz0, w_fz1, w_t0, w_t1, w_t2, w_t3, w_t4, w_add, w_addL, w_addT, w_sub, w_subB, w_mul, w_mulL, w_mulT, w_mod, w_div, w_lt, w_le, w_gt, w_ge, w_is, w_isnt, w_n0, w_n1, w_n2, w_n3, w_n4, w_neg, w_atL, w_atT, w_lenL, w_lenT, w_tupL, w_tupT, w_lisL, w_lisT, w_abs, w_int, w_intB, w_gcd, w_min, w_max, w_seqL, w_seqT, w_augA, w_augS, w_augM, w_intQ, w_lstQ, w_rng1, w_rng2, w_zipL, w_zipT, w_zipM, w_zipN, w_enum, w_enumT]
    exact hP ⟨hm, c⟩
  · rw [decide_eq_false c]
    simp only [true_and, wpSs, wpS, wpE, wpX, wpO, wpC, wpI, ent, kt0, bindT, bindTs, tgsLen, wipeR, constD, owL, List.map_cons, List.map_nil, List.length_cons, List.length_nil, List.replicate, List.cons_append, List.nil_append, Nat.reduceSub, Nat.reduceAdd, List.getElem?_cons_zero, List.getElem?_cons_succ, List.getElem?_nil, List.set_cons_zero, List.set_cons_succ, opF, cmpF, Bi.fd, Option.map_some, if_true, if_false, Bool.true_eq_false, Bool.false_eq_true, reduceIte, Bool.not_true, Bool.not_false, w_some, w_none, w_fz0, w_fz1, w_t0, w_t1, w_t2, w_t3, w_t4, w_add, w_addL, w_addT, w_sub, w_subB, w_mul, w_mulL, w_mulT, w_mod, w_div, w_lt, w_le, w_gt, w_ge, w_is, w_isnt, w_n0, w_n1, w_n2, w_n3, w_n4, w_neg, w_atL, w_atT, w_lenL, w_lenT, w_tupL, w_tupT, w_lisL, w_lisT, w_abs, w_int, w_intB, w_gcd, w_min, w_max, w_seqL, w_seqT, w_augA, w_augS, w_augM, w_intQ, w_lstQ, w_rng1, w_rng2, w_zipL, w_zipT, w_zipM, w_zipN, w_enum, w_enumT]
    have h2 := Mov.le hs (hsn c)
    refine ⟨by rw [List.length_map, el]; exact small1000 (by omega), 2 * m - (n + 1), by omega, n + 1, some (.fz (gnD t.1)), some (.fz (gnD t.2)), some (.fz (rowQ (ops w t.1 ev))), some (.fz (rowQ (ops w t.2 ev))), some (.fz (stD (step w ev t))), hsn c, rfl, ?_⟩
    rw [es, List.map_append]
    rfl
theorem imp_agreed (e1 : Γ.Φ "opinions" = φ_opinions) (e2 : Γ.Φ "talk" = φ_talk) (as : List Sl) (P : D → Prop) (PE : Str → Prop) (h : φ_agreed as P PE) : spW Γ d_agreed as P PE := by
  obtain ⟨m, w, s, ev, rfl, hw, he, hs, hP⟩ := h
  refine ⟨rfl, ?_⟩
  simp only [d_agreed, true_and, wpSs, wpS, wpE, wpX, wpO, wpC, wpI, ent, kt0, bindT, bindTs, tgsLen, wipeR, constD, owL, List.map_cons, List.map_nil, List.length_cons, List.length_nil, List.replicate, List.cons_append, List.nil_append, Nat.reduceSub, Nat.reduceAdd, List.getElem?_cons_zero, List.getElem?_cons_succ, List.getElem?_nil, List.set_cons_zero, List.set_cons_succ, opF, cmpF, Bi.fd, Option.map_some, if_true, if_false, Bool.true_eq_false, Bool.false_eq_true, reduceIte, Bool.not_true, Bool.not_false, w_some, w_none, w_fz0, w_fz1, w_t0, w_t1, w_t2, w_t3, w_t4, w_add, w_addL, w_addT, w_sub, w_subB, w_mul, w_mulL, w_mulT, w_mod, w_div, w_lt, w_le, w_gt, w_ge, w_is, w_isnt, w_n0, w_n1, w_n2, w_n3, w_n4, w_neg, w_atL, w_atT, w_lenL, w_lenT, w_tupL, w_tupT, w_lisL, w_lisT, w_abs, w_int, w_intB, w_gcd, w_min, w_max, w_seqL, w_seqT, w_augA, w_augS, w_augM, w_intQ, w_lstQ, w_rng1, w_rng2, w_zipL, w_zipT, w_zipM, w_zipN, w_enum, w_enumT, e1, e2]
  refine ⟨m, w, s, ev, rfl, hw, he, hs, fun n hn => ?_⟩
  simp only [true_and, wpSs, wpS, wpE, wpX, wpO, wpC, wpI, ent, kt0, bindT, bindTs, tgsLen, wipeR, constD, owL, List.map_cons, List.map_nil, List.length_cons, List.length_nil, List.replicate, List.cons_append, List.nil_append, Nat.reduceSub, Nat.reduceAdd, List.getElem?_cons_zero, List.getElem?_cons_succ, List.getElem?_nil, List.set_cons_zero, List.set_cons_succ, opF, cmpF, Bi.fd, Option.map_some, if_true, if_false, Bool.true_eq_false, Bool.false_eq_true, reduceIte, Bool.not_true, Bool.not_false, w_some, w_none, w_fz0, w_fz1, w_t0, w_t1, w_t2, w_t3, w_t4, w_add, w_addL, w_addT, w_sub, w_subB, w_mul, w_mulL, w_mulT, w_mod, w_div, w_lt, w_le, w_gt, w_ge, w_is, w_isnt, w_n0, w_n1, w_n2, w_n3, w_n4, w_neg, w_atL, w_atT, w_lenL, w_lenT, w_tupL, w_tupT, w_lisL, w_lisT, w_abs, w_int, w_intB, w_gcd, w_min, w_max, w_seqL, w_seqT, w_augA, w_augS, w_augM, w_intQ, w_lstQ, w_rng1, w_rng2, w_zipL, w_zipT, w_zipM, w_zipN, w_enum, w_enumT, at_its]
  simp only [stD, true_and, wpSs, wpS, wpE, wpX, wpO, wpC, wpI, ent, kt0, bindT, bindTs, tgsLen, wipeR, constD, owL, List.map_cons, List.map_nil, List.length_cons, List.length_nil, List.replicate, List.cons_append, List.nil_append, Nat.reduceSub, Nat.reduceAdd, List.getElem?_cons_zero, List.getElem?_cons_succ, List.getElem?_nil, List.set_cons_zero, List.set_cons_succ, opF, cmpF, Bi.fd, Option.map_some, if_true, if_false, Bool.true_eq_false, Bool.false_eq_true, reduceIte, Bool.not_true, Bool.not_false, w_some, w_none, w_fz0, w_fz1, w_t0, w_t1, w_t2, w_t3, w_t4, w_add, w_addL, w_addT, w_sub, w_subB, w_mul, w_mulL, w_mulT, w_mod, w_div, w_lt, w_le, w_gt, w_ge, w_is, w_isnt, w_n0, w_n1, w_n2, w_n3, w_n4, w_neg, w_atL, w_atT, w_lenL, w_lenT, w_tupL, w_tupT, w_lisL, w_lisT, w_abs, w_int, w_intB, w_gcd, w_min, w_max, w_seqL, w_seqT, w_augA, w_augS, w_augM, w_intQ, w_lstQ, w_rng1, w_rng2, w_zipL, w_zipT, w_zipM, w_zipN, w_enum, w_enumT, atI0]
  exact ⟨m, w, _, ev, rfl, hw, he, (hs.itr (w := w) (ev := ev) n).p1, hP n hn⟩
theorem imp__law_opinions (e1 : Γ.Φ "_law_of" = φ__law_of) (e2 : Γ.Φ "_law_total" = φ__law_total) (e3 : Γ.Φ "_law_lowest" = φ__law_lowest) (as : List Sl) (P : D → Prop) (PE : Str → Prop) (h : φ__law_opinions as P PE) : spW Γ d__law_opinions as P PE := by
  obtain ⟨m, w, bs, ev, rfl, hw, he, p, hP⟩ := h
  refine ⟨rfl, ?_⟩
  have m5 := hw.m5
  simp only [d__law_opinions, true_and, wpSs, wpS, wpE, wpX, wpO, wpC, wpI, ent, kt0, bindT, bindTs, tgsLen, wipeR, constD, owL, List.map_cons, List.map_nil, List.length_cons, List.length_nil, List.replicate, List.cons_append, List.nil_append, Nat.reduceSub, Nat.reduceAdd, List.getElem?_cons_zero, List.getElem?_cons_succ, List.getElem?_nil, List.set_cons_zero, List.set_cons_succ, opF, cmpF, Bi.fd, Option.map_some, if_true, if_false, Bool.true_eq_false, Bool.false_eq_true, reduceIte, Bool.not_true, Bool.not_false, w_some, w_none, w_fz0, w_fz1, w_t0, w_t1, w_t2, w_t3, w_t4, w_add, w_addL, w_addT, w_sub, w_subB, w_mul, w_mulL, w_mulT, w_mod, w_div, w_lt, w_le, w_gt, w_ge, w_is, w_isnt, w_n0, w_n1, w_n2, w_n3, w_n4, w_neg, w_atL, w_atT, w_lenL, w_lenT, w_tupL, w_tupT, w_lisL, w_lisT, w_abs, w_int, w_intB, w_gcd, w_min, w_max, w_seqL, w_seqT, w_augA, w_augS, w_augM, w_intQ, w_lstQ, w_rng1, w_rng2, w_zipL, w_zipT, w_zipM, w_zipN, w_enum, w_enumT, e1, e2, e3, rowQ, hw.len, List.length_map]
  refine ⟨rngOk_small (by omega) (by omega), ?_⟩
  rw [Int.toNat_natCast, rangeD0]
  refine forW_ix (I := fun k ρ => ∃ y4 y5 y6 y7 y8, ρ = [some (.fz (.tuple (w.map qD))), some (.fz (gnD bs)), some (.fz (rowI ev)), some (.ow (.list ((List.range k).map fun (x : Nat) => qD (opn w bs ev x)))), y4, y5, y6, y7, y8]) ⟨none, none, none, none, none, rfl⟩ (fun k ρ kk hk hI hkk => ?_) (fun ρ hI => ?_)
  · obtain ⟨y4, y5, y6, y7, y8, rfl⟩ := hI
    obtain ⟨hb, hx⟩ := p.blk (x := (k : Int)) (by omega) (by omega)
    have hne := p.ne _ hb
    have h5 : (blkOf bs k).length ≤ 5 := Nat.le_trans (p.blen hb) m5
    have hr := p.rng _ hb
    simp only [true_and, wpSs, wpS, wpE, wpX, wpO, wpC, wpI, ent, kt0, bindT, bindTs, tgsLen, wipeR, constD, owL, List.map_cons, List.map_nil, List.length_cons, List.length_nil, List.replicate, List.cons_append, List.nil_append, Nat.reduceSub, Nat.reduceAdd, List.getElem?_cons_zero, List.getElem?_cons_succ, List.getElem?_nil, List.set_cons_zero, List.set_cons_succ, opF, cmpF, Bi.fd, Option.map_some, if_true, if_false, Bool.true_eq_false, Bool.false_eq_true, reduceIte, Bool.not_true, Bool.not_false, w_some, w_none, w_fz0, w_fz1, w_t0, w_t1, w_t2, w_t3, w_t4, w_add, w_addL, w_addT, w_sub, w_subB, w_mul, w_mulL, w_mulT, w_mod, w_div, w_lt, w_le, w_gt, w_ge, w_is, w_isnt, w_n0, w_n1, w_n2, w_n3, w_n4, w_neg, w_atL, w_atT, w_lenL, w_lenT, w_tupL, w_tupT, w_lisL, w_lisT, w_abs, w_int, w_intB, w_gcd, w_min, w_max, w_seqL, w_seqT, w_augA, w_augS, w_augM, w_intQ, w_lstQ, w_rng1, w_rng2, w_zipL, w_zipT, w_zipM, w_zipN, w_enum, w_enumT]
    refine ⟨m, bs, k, rfl, p, m5, by omega, by omega, ?_⟩
    obtain ⟨s1, s2⟩ := opB_sz (ev := ev) hw h5 hr
    have eo : opn w bs ev k = opB w ev (blkOf bs k) := rfl
    rw [List.range_succ, List.map_append, List.map_cons, eo] at hkk
    generalize blkOf bs k = b at *
    simp only [true_and, wpSs, wpS, wpE, wpX, wpO, wpC, wpI, ent, kt0, bindT, bindTs, tgsLen, wipeR, constD, owL, List.map_cons, List.map_nil, List.length_cons, List.length_nil, List.replicate, List.cons_append, List.nil_append, Nat.reduceSub, Nat.reduceAdd, List.getElem?_cons_zero, List.getElem?_cons_succ, List.getElem?_nil, List.set_cons_zero, List.set_cons_succ, opF, cmpF, Bi.fd, Option.map_some, if_true, if_false, Bool.true_eq_false, Bool.false_eq_true, reduceIte, Bool.not_true, Bool.not_false, w_some, w_none, w_fz0, w_fz1, w_t0, w_t1, w_t2, w_t3, w_t4, w_add, w_addL, w_addT, w_sub, w_subB, w_mul, w_mulL, w_mulT, w_mod, w_div, w_lt, w_le, w_gt, w_ge, w_is, w_isnt, w_n0, w_n1, w_n2, w_n3, w_n4, w_neg, w_atL, w_atT, w_lenL, w_lenT, w_tupL, w_tupT, w_lisL, w_lisT, w_abs, w_int, w_intB, w_gcd, w_min, w_max, w_seqL, w_seqT, w_augA, w_augS, w_augM, w_intQ, w_lstQ, w_rng1, w_rng2, w_zipL, w_zipT, w_zipM, w_zipN, w_enum, w_enumT, rowI]
    refine ev_fold he hw h5 hr ?_ fun z acc kk a1 a2 hk => ?_
    · refine ⟨true, _, 36, rfl, s2, by decide, ?_⟩
      refine all_fold hw h5 hr ?_ fun z acc kk a1 hk => ?_
      · refine ⟨true, _, 36, rfl, s1, by decide, ?_⟩
        have pos := pAll_pos (w := w) hne fun z hz => hw.pos z (hr z hz).1 (hr z hz).2
        have s1 := s1.all
        have s2 := s2.all
        have eo2 : opB w ev b = qsum ((b.filter fun z => decide (ge ev z = 1)).map (gw w)) / qsum (b.map (gw w)) := rfl
        rw [eo2] at hkk
        have pos : 0 < qsum (b.map (gw w)) := pos
        generalize qsum (b.map (gw w)) = u at *
        generalize qsum ((b.filter fun z => decide (ge ev z = 1)).map (gw w)) = v at *
        simp only [true_and, wpSs, wpS, wpE, wpX, wpO, wpC, wpI, ent, kt0, bindT, bindTs, tgsLen, wipeR, constD, owL, List.map_cons, List.map_nil, List.length_cons, List.length_nil, List.replicate, List.cons_append, List.nil_append, Nat.reduceSub, Nat.reduceAdd, List.getElem?_cons_zero, List.getElem?_cons_succ, List.getElem?_nil, List.set_cons_zero, List.set_cons_succ, opF, cmpF, Bi.fd, Option.map_some, if_true, if_false, Bool.true_eq_false, Bool.false_eq_true, reduceIte, Bool.not_true, Bool.not_false, w_some, w_none, w_fz0, w_fz1, w_t0, w_t1, w_t2, w_t3, w_t4, w_add, w_addL, w_addT, w_sub, w_subB, w_mul, w_mulL, w_mulT, w_mod, w_div, w_lt, w_le, w_gt, w_ge, w_is, w_isnt, w_n0, w_n1, w_n2, w_n3, w_n4, w_neg, w_atL, w_atT, w_lenL, w_lenT, w_tupL, w_tupT, w_lisL, w_lisT, w_abs, w_int, w_intB, w_gcd, w_min, w_max, w_seqL, w_seqT, w_augA, w_augS, w_augM, w_intQ, w_lstQ, w_rng1, w_rng2, w_zipL, w_zipT, w_zipM, w_zipN, w_enum, w_enumT, qD0, qD1]
        have nz : u ≠ 0 := by grind
        have un : 0 < u.num := by have := Rat.num_nonneg (q := u); have h2 : u.num ≠ 0 := fun h => nz (Rat.num_eq_zero.mp h); grind
        have vn := den_pos v
        refine ⟨s2.num.mulOk s1.den (by omega), s2.den.mulOk s1.num (by omega), _, _, 72, 72, rfl, Int.mul_pos vn un, s2.num.mul s1.den, s2.den.mul s1.num, by decide, by decide, ?_⟩
        have ed : Rat.divInt (v.num * u.den) (v.den * u.num) = v / u := by
          have e1 : v / u = Rat.divInt v.num v.den / Rat.divInt u.num u.den := by rw [self_divInt, self_divInt]
          rw [e1, Rat.div_def, self_divInt u, Rat.inv_def, Rat.divInt_mul_divInt]
        rw [ed]
        refine ⟨by rw [List.length_map, List.length_range]; exact small1000 (by omega), hkk _ ⟨_, _, _, _, _, rfl⟩⟩
      · simp only [true_and, wpSs, wpS, wpE, wpX, wpO, wpC, wpI, ent, kt0, bindT, bindTs, tgsLen, wipeR, constD, owL, List.map_cons, List.map_nil, List.length_cons, List.length_nil, List.replicate, List.cons_append, List.nil_append, Nat.reduceSub, Nat.reduceAdd, List.getElem?_cons_zero, List.getElem?_cons_succ, List.getElem?_nil, List.set_cons_zero, List.set_cons_succ, opF, cmpF, Bi.fd, Option.map_some, if_true, if_false, Bool.true_eq_false, Bool.false_eq_true, reduceIte, Bool.not_true, Bool.not_false, w_some, w_none, w_fz0, w_fz1, w_t0, w_t1, w_t2, w_t3, w_t4, w_add, w_addL, w_addT, w_sub, w_subB, w_mul, w_mulL, w_mulT, w_mod, w_div, w_lt, w_le, w_gt, w_ge, w_is, w_isnt, w_n0, w_n1, w_n2, w_n3, w_n4, w_neg, w_atL, w_atT, w_lenL, w_lenT, w_tupL, w_tupT, w_lisL, w_lisT, w_abs, w_int, w_intB, w_gcd, w_min, w_max, w_seqL, w_seqT, w_augA, w_augS, w_augM, w_intQ, w_lstQ, w_rng1, w_rng2, w_zipL, w_zipT, w_zipM, w_zipN, w_enum, w_enumT, a1]
        exact hk
    · simp only [true_and, wpSs, wpS, wpE, wpX, wpO, wpC, wpI, ent, kt0, bindT, bindTs, tgsLen, wipeR, constD, owL, List.map_cons, List.map_nil, List.length_cons, List.length_nil, List.replicate, List.cons_append, List.nil_append, Nat.reduceSub, Nat.reduceAdd, List.getElem?_cons_zero, List.getElem?_cons_succ, List.getElem?_nil, List.set_cons_zero, List.set_cons_succ, opF, cmpF, Bi.fd, Option.map_some, if_true, if_false, Bool.true_eq_false, Bool.false_eq_true, reduceIte, Bool.not_true, Bool.not_false, w_some, w_none, w_fz0, w_fz1, w_t0, w_t1, w_t2, w_t3, w_t4, w_add, w_addL, w_addT, w_sub, w_subB, w_mul, w_mulL, w_mulT, w_mod, w_div, w_lt, w_le, w_gt, w_ge, w_is, w_isnt, w_n0, w_n1, w_n2, w_n3, w_n4, w_neg, w_atL, w_atT, w_lenL, w_lenT, w_tupL, w_tupT, w_lisL, w_lisT, w_abs, w_int, w_intB, w_gcd, w_min, w_max, w_seqL, w_seqT, w_augA, w_augS, w_augM, w_intQ, w_lstQ, w_rng1, w_rng2, w_zipL, w_zipT, w_zipM, w_zipN, w_enum, w_enumT, a1, a2]
      exact dEqI hk
  · obtain ⟨y4, y5, y6, y7, y8, rfl⟩ := hI
    simp only [true_and, wpSs, wpS, wpE, wpX, wpO, wpC, wpI, ent, kt0, bindT, bindTs, tgsLen, wipeR, constD, owL, List.map_cons, List.map_nil, List.length_cons, List.length_nil, List.replicate, List.cons_append, List.nil_append, Nat.reduceSub, Nat.reduceAdd, List.getElem?_cons_zero, List.getElem?_cons_succ, List.getElem?_nil, List.set_cons_zero, List.set_cons_succ, opF, cmpF, Bi.fd, Option.map_some, if_true, if_false, Bool.true_eq_false, Bool.false_eq_true, reduceIte, Bool.not_true, Bool.not_false, w_some, w_none, w_fz0, w_fz1, w_t0, w_t1, w_t2, w_t3, w_t4, w_add, w_addL, w_addT, w_sub, w_subB, w_mul, w_mulL, w_mulT, w_mod, w_div, w_lt, w_le, w_gt, w_ge, w_is, w_isnt, w_n0, w_n1, w_n2, w_n3, w_n4, w_neg, w_atL, w_atT, w_lenL, w_lenT, w_tupL, w_tupT, w_lisL, w_lisT, w_abs, w_int, w_intB, w_gcd, w_min, w_max, w_seqL, w_seqT, w_augA, w_augS, w_augM, w_intQ, w_lstQ, w_rng1, w_rng2, w_zipL, w_zipT, w_zipM, w_zipN, w_enum, w_enumT]
    unfold ops rowQ at hP
    rw [List.map_map, hw.len] at hP
    exact hP
theorem rchB_ok {found b : List Int} (hn : found.Nodup) (hr : ∀ z ∈ found, 0 ≤ z ∧ z < (m : Int)) (bn : b.Nodup) (br : ∀ z ∈ b, 0 ≤ z ∧ z < (m : Int)) : (rchB found b).Nodup ∧ ∀ z ∈ rchB found b, 0 ≤ z ∧ z < (m : Int) := by
  refine ⟨?_, fun z hz => ?_⟩
  · unfold rchB
    split
    · rw [List.nodup_append]
      refine ⟨hn, bn.filter _, fun x hx y hy e => ?_⟩
      subst e
      have := (List.mem_filter.mp hy).2
      rw [decide_eq_true hx] at this
      cases this
    · exact hn
  · rcases rchB_of hz with h | h
    · exact hr z h
    · exact br z h.1
theorem imp__law_reach (as : List Sl) (P : D → Prop) (PE : Str → Prop) (h : φ__law_reach as P PE) : spW Γ d__law_reach as P PE := by
  obtain ⟨m, a, b, x, rfl, m5, pa, pb, h0, h1, hP⟩ := h
  refine ⟨rfl, ?_⟩
  have tw := two_of pa pb
  have la := pa.len
  have lb := pb.len
  simp only [d__law_reach, true_and, wpSs, wpS, wpE, wpX, wpO, wpC, wpI, ent, kt0, bindT, bindTs, tgsLen, wipeR, constD, owL, List.map_cons, List.map_nil, List.length_cons, List.length_nil, List.replicate, List.cons_append, List.nil_append, Nat.reduceSub, Nat.reduceAdd, List.getElem?_cons_zero, List.getElem?_cons_succ, List.getElem?_nil, List.set_cons_zero, List.set_cons_succ, opF, cmpF, Bi.fd, Option.map_some, if_true, if_false, Bool.true_eq_false, Bool.false_eq_true, reduceIte, Bool.not_true, Bool.not_false, w_some, w_none, w_fz0, w_fz1, w_t0, w_t1, w_t2, w_t3, w_t4, w_add, w_addL, w_addT, w_sub, w_subB, w_mul, w_mulL, w_mulT, w_mod, w_div, w_lt, w_le, w_gt, w_ge, w_is, w_isnt, w_n0, w_n1, w_n2, w_n3, w_n4, w_neg, w_atL, w_atT, w_lenL, w_lenT, w_tupL, w_tupT, w_lisL, w_lisT, w_abs, w_int, w_intB, w_gcd, w_min, w_max, w_seqL, w_seqT, w_augA, w_augS, w_augM, w_intQ, w_lstQ, w_rng1, w_rng2, w_zipL, w_zipT, w_zipM, w_zipN, w_enum, w_enumT, gnD, List.length_map]
  refine ⟨rngOk_small (by omega) (by omega), ?_⟩
  rw [show ((a.length : Int) + (b.length : Int) + 1).toNat = a.length + b.length + 1 by omega, rangeD0]
  refine forW_ix (I := fun k ρ => ((rch (a ++ b) x k).Nodup ∧ ∀ z ∈ rch (a ++ b) x k, 0 ≤ z ∧ z < (m : Int)) ∧ ∃ y4 y5 y6, ρ = [some (.fz (.tuple (a.map rowI))), some (.fz (.tuple (b.map rowI))), some (.fz (.int x)), some (.fz (.list ((rch (a ++ b) x k).map PyData.int))), y4, y5, y6]) ⟨⟨by simp [rch], fun z hz => by rw [List.mem_singleton.mp hz]; exact ⟨h0, h1⟩⟩, none, none, none, rfl⟩ (fun k ρ kk hk hI hkk => ?_) (fun ρ hI => ?_)
  · obtain ⟨hok, y4, y5, y6, rfl⟩ := hI
    have er : rch (a ++ b) x (k + 1) = (a ++ b).foldl rchB (rch (a ++ b) x k) := rfl
    rw [er] at hkk
    generalize rch (a ++ b) x k = f at *
    simp only [true_and, wpSs, wpS, wpE, wpX, wpO, wpC, wpI, ent, kt0, bindT, bindTs, tgsLen, wipeR, constD, owL, List.map_cons, List.map_nil, List.length_cons, List.length_nil, List.replicate, List.cons_append, List.nil_append, Nat.reduceSub, Nat.reduceAdd, List.getElem?_cons_zero, List.getElem?_cons_succ, List.getElem?_nil, List.set_cons_zero, List.set_cons_succ, opF, cmpF, Bi.fd, Option.map_some, if_true, if_false, Bool.true_eq_false, Bool.false_eq_true, reduceIte, Bool.not_true, Bool.not_false, w_some, w_none, w_fz0, w_fz1, w_t0, w_t1, w_t2, w_t3, w_t4, w_add, w_addL, w_addT, w_sub, w_subB, w_mul, w_mulL, w_mulT, w_mod, w_div, w_lt, w_le, w_gt, w_ge, w_is, w_isnt, w_n0, w_n1, w_n2, w_n3, w_n4, w_neg, w_atL, w_atT, w_lenL, w_lenT, w_tupL, w_tupT, w_lisL, w_lisT, w_abs, w_int, w_intB, w_gcd, w_min, w_max, w_seqL, w_seqT, w_augA, w_augS, w_augM, w_intQ, w_lstQ, w_rng1, w_rng2, w_zipL, w_zipT, w_zipM, w_zipN, w_enum, w_enumT]
    refine ⟨by rw [List.length_map, List.length_map]; exact small (by omega), ?_⟩
    rw [← List.map_append]
    refine forW_inv (I := fun done ρ => ((done.foldl rchB f).Nodup ∧ ∀ z ∈ done.foldl rchB f, 0 ≤ z ∧ z < (m : Int)) ∧ ∃ y4 y5 y6, ρ = [some (.fz (.tuple (a.map rowI))), some (.fz (.tuple (b.map rowI))), some (.fz (.int x)), some (.fz (.list ((done.foldl rchB f).map PyData.int))), y4, y5, y6]) ⟨hok, _, _, _, rfl⟩ (fun done c rest ρ k2 el hI hk2 => ?_) (fun ρ hI => hkk ρ hI)
    obtain ⟨ok, y4, y5, y6, rfl⟩ := hI
    have hc : c ∈ a ++ b := by rw [el]; simp
    have ef : (done ++ [c]).foldl rchB f = rchB (done.foldl rchB f) c := by rw [List.foldl_append]; rfl
    rw [ef] at hk2
    generalize done.foldl rchB f = g at *
    have okc := rchB_ok ok.1 ok.2 (tw.nd c hc) (tw.rng c hc)
    have lc := sub_len (tw.nd c hc) (tw.rng c hc)
    have lg := sub_len ok.1 ok.2
    simp only [true_and, wpSs, wpS, wpE, wpX, wpO, wpC, wpI, ent, kt0, bindT, bindTs, tgsLen, wipeR, constD, owL, List.map_cons, List.map_nil, List.length_cons, List.length_nil, List.replicate, List.cons_append, List.nil_append, Nat.reduceSub, Nat.reduceAdd, List.getElem?_cons_zero, List.getElem?_cons_succ, List.getElem?_nil, List.set_cons_zero, List.set_cons_succ, opF, cmpF, Bi.fd, Option.map_some, if_true, if_false, Bool.true_eq_false, Bool.false_eq_true, reduceIte, Bool.not_true, Bool.not_false, w_some, w_none, w_fz0, w_fz1, w_t0, w_t1, w_t2, w_t3, w_t4, w_add, w_addL, w_addT, w_sub, w_subB, w_mul, w_mulL, w_mulT, w_mod, w_div, w_lt, w_le, w_gt, w_ge, w_is, w_isnt, w_n0, w_n1, w_n2, w_n3, w_n4, w_neg, w_atL, w_atT, w_lenL, w_lenT, w_tupL, w_tupT, w_lisL, w_lisT, w_abs, w_int, w_intB, w_gcd, w_min, w_max, w_seqL, w_seqT, w_augA, w_augS, w_augM, w_intQ, w_lstQ, w_rng1, w_rng2, w_zipL, w_zipT, w_zipM, w_zipN, w_enum, w_enumT, rowI]
    refine ⟨by rw [List.length_map]; exact small (by omega), ?_⟩
    refine foldW_filter (fun z => decide (z ∈ g)) (fun z => PyData.int z) (fun z acc k3 hz hk3 => ?_) ?_
    · refine dInIL ?_
      rw [if_neg Bool.false_ne_true]
      exact kif hk3
    · refine dNe_list0 (td_shp (α := List Int) _ (by decide)) ?_
      have eany : (!((c.filter fun z => decide (z ∈ g)).map PyData.int).isEmpty) = c.any fun z => decide (z ∈ g) := by
        rw [List.isEmpty_map]
        cases h : c.any fun z => decide (z ∈ g) with
        | true =>
          rw [List.any_eq_true] at h
          obtain ⟨z, h1, h2⟩ := h
          cases hf : c.filter fun z => decide (z ∈ g) with
          | nil => exact absurd (List.mem_filter.mpr ⟨h1, h2⟩) (by rw [hf]; simp)
          | cons => rfl
        | false =>
          rw [List.any_eq_false] at h
          rw [List.filter_eq_nil_iff.mpr h]
          rfl
      have eany2 : (!((c.filter fun z => decide (z ∈ g)).map fun z => PyData.int z).isEmpty) = c.any fun z => decide (z ∈ g) := eany
      rw [eany2]
      unfold rchB at hk2 okc
      cases ha : c.any fun z => decide (z ∈ g) with
      | true =>
        rw [ha, if_pos rfl] at hk2 okc
        simp only [true_and, wpSs, wpS, wpE, wpX, wpO, wpC, wpI, ent, kt0, bindT, bindTs, tgsLen, wipeR, constD, owL, List.map_cons, List.map_nil, List.length_cons, List.length_nil, List.replicate, List.cons_append, List.nil_append, Nat.reduceSub, Nat.reduceAdd, List.getElem?_cons_zero, List.getElem?_cons_succ, List.getElem?_nil, List.set_cons_zero, List.set_cons_succ, opF, cmpF, Bi.fd, Option.map_some, if_true, if_false, Bool.true_eq_false, Bool.false_eq_true, reduceIte, Bool.not_true, Bool.not_false, w_some, w_none, w_fz0, w_fz1, w_t0, w_t1, w_t2, w_t3, w_t4, w_add, w_addL, w_addT, w_sub, w_subB, w_mul, w_mulL, w_mulT, w_mod, w_div, w_lt, w_le, w_gt, w_ge, w_is, w_isnt, w_n0, w_n1, w_n2, w_n3, w_n4, w_neg, w_atL, w_atT, w_lenL, w_lenT, w_tupL, w_tupT, w_lisL, w_lisT, w_abs, w_int, w_intB, w_gcd, w_min, w_max, w_seqL, w_seqT, w_augA, w_augS, w_augM, w_intQ, w_lstQ, w_rng1, w_rng2, w_zipL, w_zipT, w_zipM, w_zipN, w_enum, w_enumT]
        refine ⟨by rw [List.length_map]; exact small (by omega), ?_⟩
        refine foldW_filter (fun z => !decide (z ∈ g)) (fun z => PyData.int z) (fun z acc k3 hz hk3 => ?_) ?_
        · refine dInIL ?_
          rw [if_pos rfl]
          exact kif hk3
        · have := List.length_filter_le (fun z => !decide (z ∈ g)) c
          refine ⟨by rw [List.length_map, List.length_map]; exact small (by omega), ?_⟩
          rw [← List.map_append]
          exact hk2 _ ⟨okc, _, _, _, rfl⟩
      | false =>
        rw [ha, if_neg Bool.false_ne_true] at hk2 okc
        simp only [true_and, wpSs, wpS, wpE, wpX, wpO, wpC, wpI, ent, kt0, bindT, bindTs, tgsLen, wipeR, constD, owL, List.map_cons, List.map_nil, List.length_cons, List.length_nil, List.replicate, List.cons_append, List.nil_append, Nat.reduceSub, Nat.reduceAdd, List.getElem?_cons_zero, List.getElem?_cons_succ, List.getElem?_nil, List.set_cons_zero, List.set_cons_succ, opF, cmpF, Bi.fd, Option.map_some, if_true, if_false, Bool.true_eq_false, Bool.false_eq_true, reduceIte, Bool.not_true, Bool.not_false, w_some, w_none, w_fz0, w_fz1, w_t0, w_t1, w_t2, w_t3, w_t4, w_add, w_addL, w_addT, w_sub, w_subB, w_mul, w_mulL, w_mulT, w_mod, w_div, w_lt, w_le, w_gt, w_ge, w_is, w_isnt, w_n0, w_n1, w_n2, w_n3, w_n4, w_neg, w_atL, w_atT, w_lenL, w_lenT, w_tupL, w_tupT, w_lisL, w_lisT, w_abs, w_int, w_intB, w_gcd, w_min, w_max, w_seqL, w_seqT, w_augA, w_augS, w_augM, w_intQ, w_lstQ, w_rng1, w_rng2, w_zipL, w_zipT, w_zipM, w_zipN, w_enum, w_enumT]
        exact hk2 _ ⟨okc, _, _, _, rfl⟩
  · obtain ⟨_, y4, y5, y6, rfl⟩ := hI
    simp only [true_and, wpSs, wpS, wpE, wpX, wpO, wpC, wpI, ent, kt0, bindT, bindTs, tgsLen, wipeR, constD, owL, List.map_cons, List.map_nil, List.length_cons, List.length_nil, List.replicate, List.cons_append, List.nil_append, Nat.reduceSub, Nat.reduceAdd, List.getElem?_cons_zero, List.getElem?_cons_succ, List.getElem?_nil, List.set_cons_zero, List.set_cons_succ, opF, cmpF, Bi.fd, Option.map_some, if_true, if_false, Bool.true_eq_false, Bool.false_eq_true, reduceIte, Bool.not_true, Bool.not_false, w_some, w_none, w_fz0, w_fz1, w_t0, w_t1, w_t2, w_t3, w_t4, w_add, w_addL, w_addT, w_sub, w_subB, w_mul, w_mulL, w_mulT, w_mod, w_div, w_lt, w_le, w_gt, w_ge, w_is, w_isnt, w_n0, w_n1, w_n2, w_n3, w_n4, w_neg, w_atL, w_atT, w_lenL, w_lenT, w_tupL, w_tupT, w_lisL, w_lisT, w_abs, w_int, w_intB, w_gcd, w_min, w_max, w_seqL, w_seqT, w_augA, w_augS, w_augM, w_intQ, w_lstQ, w_rng1, w_rng2, w_zipL, w_zipT, w_zipM, w_zipN, w_enum, w_enumT]
    exact hP
end
end DL

set_option Elab.async false
set_option linter.all false
set_option maxRecDepth 100000
set_option maxHeartbeats 4000000
namespace DL
open PySem PySem.Spec PyProof.Rows L2
section
variable {Γ : Gam} {m : Nat} {bs : List (List Int)}
/-! ### drawn blocks -/
def nbk (m : Nat) (ws : List Int) (k : Int) : List Int := ((List.range m).filter fun (x : Nat) => decide (ge ws x = k)).map fun (x : Nat) => (x : Int)
def drawn (m : Nat) (ws : List Int) : List (List Int) := ((List.range m).filter fun (k : Nat) => decide ((k : Int) ∈ ws)).map fun (k : Nat) => nbk m ws k
theorem mem_nbk {ws : List Int} {k z : Int} : z ∈ nbk m ws k ↔ (0 ≤ z ∧ z < m) ∧ ge ws z = k := by
  unfold nbk
  rw [List.mem_map]
  constructor
  · rintro ⟨x, h, rfl⟩
    obtain ⟨h1, h2⟩ := List.mem_filter.mp h
    have := List.mem_range.mp h1
    exact ⟨⟨by omega, by omega⟩, of_decide_eq_true h2⟩
  · rintro ⟨⟨h0, h1⟩, h2⟩
    refine ⟨z.toNat, List.mem_filter.mpr ⟨List.mem_range.mpr (by omega), ?_⟩, by omega⟩
    rw [Int.toNat_of_nonneg h0]
    exact decide_eq_true h2
theorem drawn_prt {ws : List Int} (hl : ws.length = m) (hr : ∀ z ∈ ws, 0 ≤ z ∧ z < (m : Int)) : Prt m (srt (drawn m ws)) := by
  have mem : ∀ b, b ∈ drawn m ws ↔ ∃ k : Nat, (k : Int) ∈ ws ∧ b = nbk m ws k := fun b => by
    unfold drawn
    rw [List.mem_map]
    constructor
    · rintro ⟨k, h, rfl⟩
      exact ⟨k, of_decide_eq_true (List.mem_filter.mp h).2, rfl⟩
    · rintro ⟨k, h, rfl⟩
      have := hr _ h
      exact ⟨k, List.mem_filter.mpr ⟨List.mem_range.mpr (by omega), decide_eq_true h⟩, rfl⟩
  refine ⟨fun b hb => ?_, fun b hb z hz => ?_, fun x h0 h1 => ?_, ?_, fun b hb => ?_⟩
  · obtain ⟨k, h, rfl⟩ := (mem b).mp (mem_srt.mp hb)
    obtain ⟨i, hi, e⟩ := List.mem_iff_getElem.mp h
    have : (i : Int) ∈ nbk m ws k := mem_nbk.mpr ⟨⟨by omega, by omega⟩, by
      unfold ge
      rw [Int.toNat_natCast, List.getD_eq_getElem?_getD, List.getElem?_eq_getElem hi]
      exact e⟩
    intro e
    rw [e] at this
    cases this
  · obtain ⟨k, h, rfl⟩ := (mem b).mp (mem_srt.mp hb)
    exact (mem_nbk.mp hz).1
  · have hw : ge ws x ∈ ws := getD_mem 0 (by omega)
    have := hr _ hw
    refine ⟨nbk m ws (ge ws x), mem_srt.mpr ((mem _).mpr ⟨(ge ws x).toNat, ?_, ?_⟩), mem_nbk.mpr ⟨⟨h0, h1⟩, rfl⟩⟩
    · rw [Int.toNat_of_nonneg this.1]; exact hw
    · rw [Int.toNat_of_nonneg this.1]
  · refine (srt_perm _).symm.pairwise ?_ (fun {a b} hab z hz hz2 => hab z hz2 hz)
    unfold drawn
    rw [List.pairwise_map]
    refine List.Pairwise.imp (fun {a b} hab z hz hz2 => ?_) (List.nodup_range.filter _)
    have := (mem_nbk.mp hz).2.symm.trans (mem_nbk.mp hz2).2
    exact hab (by omega)
  · obtain ⟨k, h, rfl⟩ := (mem b).mp (mem_srt.mp hb)
    unfold nbk
    refine (List.pairwise_map).mpr (List.Pairwise.imp (fun {a b} h e => h (by omega)) (List.nodup_range.filter _))
theorem imp__law_blocks (e1 : Γ.Φ "_law_take" = φTake) (as : List Sl) (P : D → Prop) (PE : Str → Prop) (h : φ__law_blocks as P PE) : spW Γ d__law_blocks as P PE := by
  obtain ⟨m, rfl, m1, m5, hP⟩ := h
  refine ⟨rfl, ?_⟩
  simp only [d__law_blocks, true_and, wpSs, wpS, wpE, wpX, wpO, wpC, wpI, ent, kt0, bindT, bindTs, tgsLen, wipeR, constD, owL, List.map_cons, List.map_nil, List.length_cons, List.length_nil, List.replicate, List.cons_append, List.nil_append, Nat.reduceSub, Nat.reduceAdd, List.getElem?_cons_zero, List.getElem?_cons_succ, List.getElem?_nil, List.set_cons_zero, List.set_cons_succ, opF, cmpF, Bi.fd, Option.map_some, if_true, if_false, Bool.true_eq_false, Bool.false_eq_true, reduceIte, Bool.not_true, Bool.not_false, w_some, w_none, w_fz0, w_fz1, w_t0, w_t1, w_t2, w_t3, w_t4, w_add, w_addL, w_addT, w_sub, w_subB, w_mul, w_mulL, w_mulT, w_mod, w_div, w_lt, w_le, w_gt, w_ge, w_is, w_isnt, w_n0, w_n1, w_n2, w_n3, w_n4, w_neg, w_atL, w_atT, w_lenL, w_lenT, w_tupL, w_tupT, w_lisL, w_lisT, w_abs, w_int, w_intB, w_gcd, w_min, w_max, w_seqL, w_seqT, w_augA, w_augS, w_augM, w_intQ, w_lstQ, w_rng1, w_rng2, w_zipL, w_zipT, w_zipM, w_zipN, w_enum, w_enumT, e1]
  refine ⟨rngOk_small (by omega) (by omega), ?_⟩
  rw [Int.toNat_natCast, rangeD0]
  refine ⟨by rw [List.length_map, List.length_range]; exact small (by omega), ?_⟩
  refine foldW_any (R := fun _ y => ∃ i : Int, y = PyData.int i ∧ (0 ≤ i ∧ i < m)) (fun k acc kk hk hkk => ?_) (fun ys hys => ?_)
  · refine ⟨(m : Int), rfl, by omega, by omega, fun z z0 z1 => hkk _ ⟨z, rfl, z0, z1⟩⟩
  · obtain ⟨ws, rfl, hl, hw⟩ := paired_ints hys
    rw [List.length_range] at hl
    refine ⟨rngOk_small (by omega) (by omega), ?_⟩
    refine ⟨by rw [List.length_map, List.length_range]; exact small (by omega), ?_⟩
    refine foldW_filter (fun (k : Nat) => decide ((k : Int) ∈ ws)) (fun (k : Nat) => rowI (nbk m ws k)) (fun k acc kk hk hkk => ?_) ?_
    · refine dInIL ?_
      rw [if_neg Bool.false_ne_true]
      by_cases c : (k : Int) ∈ ws
      · rw [decide_eq_true c] at hkk ⊢
        simp only [true_and, wpSs, wpS, wpE, wpX, wpO, wpC, wpI, ent, kt0, bindT, bindTs, tgsLen, wipeR, constD, owL, List.map_cons, List.map_nil, List.length_cons, List.length_nil, List.replicate, List.cons_append, List.nil_append, Nat.reduceSub, Nat.reduceAdd, List.getElem?_cons_zero, List.getElem?_cons_succ, List.getElem?_nil, List.set_cons_zero, List.set_cons_succ, opF, cmpF, Bi.fd, Option.map_some, if_true, if_false, Bool.true_eq_false, Bool.false_eq_true, reduceIte, Bool.not_true, Bool.not_false, w_some, w_none, w_fz0, w_fz1, w_t0, w_t1, w_t2, w_t3, w_t4, w_add, w_addL, w_addT, w_sub, w_subB, w_mul, w_mulL, w_mulT, w_mod, w_div, w_lt, w_le, w_gt, w_ge, w_is, w_isnt, w_n0, w_n1, w_n2, w_n3, w_n4, w_neg, w_atL, w_atT, w_lenL, w_lenT, w_tupL, w_tupT, w_lisL, w_lisT, w_abs, w_int, w_intB, w_gcd, w_min, w_max, w_seqL, w_seqT, w_augA, w_augS, w_augM, w_intQ, w_lstQ, w_rng1, w_rng2, w_zipL, w_zipT, w_zipM, w_zipN, w_enum, w_enumT]
        refine ⟨rngOk_small (by omega) (by omega), ?_⟩
        refine ⟨by rw [List.length_map, List.length_range]; exact small (by omega), ?_⟩
        refine foldW_filter (fun (x : Nat) => decide (ge ws x = k)) (fun (x : Nat) => PyData.int x) (fun x acc k3 hx hk3 => ?_) ?_
        · have hx := List.mem_range.mp hx
          simp only [true_and, wpSs, wpS, wpE, wpX, wpO, wpC, wpI, ent, kt0, bindT, bindTs, tgsLen, wipeR, constD, owL, List.map_cons, List.map_nil, List.length_cons, List.length_nil, List.replicate, List.cons_append, List.nil_append, Nat.reduceSub, Nat.reduceAdd, List.getElem?_cons_zero, List.getElem?_cons_succ, List.getElem?_nil, List.set_cons_zero, List.set_cons_succ, opF, cmpF, Bi.fd, Option.map_some, if_true, if_false, Bool.true_eq_false, Bool.false_eq_true, reduceIte, Bool.not_true, Bool.not_false, w_some, w_none, w_fz0, w_fz1, w_t0, w_t1, w_t2, w_t3, w_t4, w_add, w_addL, w_addT, w_sub, w_subB, w_mul, w_mulL, w_mulT, w_mod, w_div, w_lt, w_le, w_gt, w_ge, w_is, w_isnt, w_n0, w_n1, w_n2, w_n3, w_n4, w_neg, w_atL, w_atT, w_lenL, w_lenT, w_tupL, w_tupT, w_lisL, w_lisT, w_abs, w_int, w_intB, w_gcd, w_min, w_max, w_seqL, w_seqT, w_augA, w_augS, w_augM, w_intQ, w_lstQ, w_rng1, w_rng2, w_zipL, w_zipT, w_zipM, w_zipN, w_enum, w_enumT, at_ge (l := ws) (show (0 : Int) ≤ (x : Int) by omega) (by omega)]
          exact dEqI (kif hk3)
        · have e : ((List.range m).filter fun (x : Nat) => decide (ge ws x = k)).map (fun (x : Nat) => PyData.int x) = (nbk m ws k).map PyData.int := by
            unfold nbk
            rw [List.map_map]
            rfl
          rw [e]
          exact hkk
      · rw [decide_eq_false c] at hkk ⊢
        simp only [true_and, wpSs, wpS, wpE, wpX, wpO, wpC, wpI, ent, kt0, bindT, bindTs, tgsLen, wipeR, constD, owL, List.map_cons, List.map_nil, List.length_cons, List.length_nil, List.replicate, List.cons_append, List.nil_append, Nat.reduceSub, Nat.reduceAdd, List.getElem?_cons_zero, List.getElem?_cons_succ, List.getElem?_nil, List.set_cons_zero, List.set_cons_succ, opF, cmpF, Bi.fd, Option.map_some, if_true, if_false, Bool.true_eq_false, Bool.false_eq_true, reduceIte, Bool.not_true, Bool.not_false, w_some, w_none, w_fz0, w_fz1, w_t0, w_t1, w_t2, w_t3, w_t4, w_add, w_addL, w_addT, w_sub, w_subB, w_mul, w_mulL, w_mulT, w_mod, w_div, w_lt, w_le, w_gt, w_ge, w_is, w_isnt, w_n0, w_n1, w_n2, w_n3, w_n4, w_neg, w_atL, w_atT, w_lenL, w_lenT, w_tupL, w_tupT, w_lisL, w_lisT, w_abs, w_int, w_intB, w_gcd, w_min, w_max, w_seqL, w_seqT, w_augA, w_augS, w_augM, w_intQ, w_lstQ, w_rng1, w_rng2, w_zipL, w_zipT, w_zipM, w_zipN, w_enum, w_enumT]
        exact hkk
    · have pr := drawn_prt hl hw
      have lp := pr.len
      have el : (srt (drawn m ws)).length = (drawn m ws).length := (srt_perm _).length_eq
      have e : ((List.range m).filter fun (k : Nat) => decide ((k : Int) ∈ ws)).map (fun (k : Nat) => rowI (nbk m ws k)) = (drawn m ws).map rowI := by
        unfold drawn
        rw [List.map_map]
        rfl
      rw [e]
      refine dSorted_rows (fun b hb => pr.ne b (mem_srt.mpr hb)) (small (by omega)) ?_
      exact hP _ pr (srt_srt _)
/-! ### the law's parts -/
theorem empty_all {ev l : List Int} (he : Ek m ev) (hr : ∀ z ∈ l, 0 ≤ z ∧ z < (m : Int)) : (l.filter fun z => decide (ge ev z = 0)).isEmpty = l.all fun z => decide (ge ev z = 1) := by
  rw [Bool.eq_iff_iff, List.isEmpty_iff, List.filter_eq_nil_iff, List.all_eq_true]
  refine forall_congr' fun z => forall_congr' fun hz => ?_
  have := he.bit z (hr z hz).1 (hr z hz).2
  simp only [decide_eq_true_eq]
  omega
theorem kn_at {ev : List Int} {x : Int} (h0 : 0 ≤ x) (h1 : x < m) : ge (kn m bs ev) x = if ((blkOf bs x).all fun z => decide (ge ev z = 1)) = true then 1 else 0 := by
  unfold kn
  have e : ∀ l : List Int, ge l x = l.getD x.toNat 0 := fun _ => rfl
  rw [e, List.getD_eq_getElem?_getD, List.getElem?_map, List.getElem?_range (by omega)]
  show (if ((blkOf bs (x.toNat : Int)).all fun z => decide (ge ev z = 1)) = true then 1 else 0) = _
  rw [Int.toNat_of_nonneg h0]
theorem kn_len (ev : List Int) : (kn m bs ev).length = m := by
  unfold kn
  rw [List.length_map, List.length_range]
theorem dNeRow {a b : List Int} {Q : D → Prop} (h : Q (.bool (!decide (a = b)))) : dNe (rowI a) (rowI b) Q := by
  have : (!decide (a = b)) = !decide ((⟨a⟩ : Tu Int) = ⟨b⟩) := by simp
  rw [this] at h
  exact dNeT (α := Tu Int) h
theorem dNeRow_same {a : List Int} {Q : D → Prop} (h : Q (.bool false)) : dNe (rowI a) (rowI a) Q := dNeRow (by rw [decide_eq_true rfl]; exact h)
theorem dNeRowQ_same {a : List Rat} {Q : D → Prop} (h : Q (.bool false)) : dNe (rowQ a) (rowQ a) Q := dNeTu (by rw [decide_eq_true rfl]; exact h)
theorem mem_com {a b : List (List Int)} (pa : Prt m a) (pb : Prt m b) {x : Int} (h0 : 0 ≤ x) (h1 : x < m) (z : Int) : z ∈ blkOf (com m (a ++ b)) x ↔ Cmp (a ++ b) x z :=
  com_is (two_of pa pb).ne (two_of pa pb).rng h0 h1 z
theorem com_p {a b : List (List Int)} (pa : Prt m a) (pb : Prt m b) : Prt m (com m (a ++ b)) := com_prt (two_of pa pb).ne (two_of pa pb).rng
theorem reach_all {a b : List (List Int)} {ev : List Int} (pa : Prt m a) (pb : Prt m b) {x : Int} (h0 : 0 ≤ x) (h1 : x < m) : ((rch (a ++ b) x (a.length + b.length + 1)).all fun z => decide (ge ev z = 1)) = (blkOf (com m (a ++ b)) x).all fun z => decide (ge ev z = 1) := by
  rw [Bool.eq_iff_iff, List.all_eq_true, List.all_eq_true]
  have := fun z => (rch_is (all := a ++ b) (x := x) (a.length + b.length + 1) (by rw [List.length_append]; omega) z).trans (mem_com pa pb h0 h1 z).symm
  exact ⟨fun h z hz => h z ((this z).mpr hz), fun h z hz => h z ((this z).mp hz)⟩
theorem reach_rng {a b : List (List Int)} (pa : Prt m a) (pb : Prt m b) {x : Int} (h0 : 0 ≤ x) (h1 : x < m) : ∀ z ∈ rch (a ++ b) x (a.length + b.length + 1), 0 ≤ z ∧ z < (m : Int) := fun z hz =>
  (com_p pa pb).rng _ ((com_p pa pb).blk h0 h1).1 z ((mem_com pa pb h0 h1 z).mpr (rch_cmp _ z hz))
theorem due_le {a b : List (List Int)} {ev : List Int} (pa : Prt m a) (pb : Prt m b) {x : Int} (h0 : 0 ≤ x) (h1 : x < m) :
    ge (kn m (com m (a ++ b)) ev) x ≤ ge (kn m a ev) x ∧ ge (kn m (com m (a ++ b)) ev) x ≤ ge (kn m b ev) x := by
  have sub : ∀ c : List (List Int), Prt m c → (∀ q ∈ c, q ∈ a ++ b) → ∀ z ∈ blkOf c x, z ∈ blkOf (com m (a ++ b)) x := fun c pc hc z hz => by
    rw [mem_com pa pb h0 h1]
    obtain ⟨h2, h3⟩ := pc.blk h0 h1
    exact Cmp.cl _ x _ (hc _ h2) ⟨x, h3, Cmp.self _ x⟩ z hz
  have key : ∀ c : List (List Int), Prt m c → (∀ q ∈ c, q ∈ a ++ b) → ge (kn m (com m (a ++ b)) ev) x ≤ ge (kn m c ev) x := fun c pc hc => by
    rw [kn_at h0 h1, kn_at h0 h1]
    split
    · rename_i h
      rw [if_pos]
      · exact Int.le_refl _
      · rw [List.all_eq_true] at h ⊢
        exact fun z hz => h z (sub c pc hc z hz)
    · split <;> decide
  exact ⟨key a pa fun q hq => List.mem_append.mpr (.inl hq), key b pb fun q hq => List.mem_append.mpr (.inr hq)⟩
def sameL (m : Nat) (w : List Rat) (bs : Bs) (ev : List Int) (x : Int) : List Int := (List.range m).map fun (z : Nat) => if opn w bs ev z = opn w bs ev x then 1 else 0
theorem same_at {w : List Rat} {ev : List Int} {x z : Int} (h0 : 0 ≤ z) (h1 : z < m) : ge (sameL m w bs ev x) z = if opn w bs ev z = opn w bs ev x then 1 else 0 := by
  unfold sameL
  have e : ∀ l : List Int, ge l z = l.getD z.toNat 0 := fun _ => rfl
  rw [e, List.getD_eq_getElem?_getD, List.getElem?_map, List.getElem?_range (by omega)]
  show (if opn w bs ev (z.toNat : Int) = opn w bs ev x then (1 : Int) else 0) = _
  rw [Int.toNat_of_nonneg h0]
theorem same_ek {w : List Rat} {ev : List Int} {x : Int} : Ek m (sameL m w bs ev x) := by
  refine ⟨by unfold sameL; rw [List.length_map, List.length_range], fun z h0 h1 => ?_⟩
  rw [same_at h0 h1]
  split
  · exact .inr rfl
  · exact .inl rfl
theorem both_one {a b : List (List Int)} {w : List Rat} {ev : List Int} (hw : Wt9 m w) (pa : Prt m a) (pb : Prt m b) {x : Int} (h0 : 0 ≤ x) (h1 : x < m)
    (k1 : ge (kn m (com m (a ++ b)) (sameL m w a ev x)) x = 1) (k2 : ge (kn m (com m (a ++ b)) (sameL m w b ev x)) x = 1) : opn w a ev x = opn w b ev x := by
  have get : ∀ c, ge (kn m (com m (a ++ b)) (sameL m w c ev x)) x = 1 → ∀ z : Int, 0 ≤ z → z < m → Cmp (a ++ b) x z → opn w c ev z = opn w c ev x := fun c hc z z0 z1 hz => by
    rw [kn_at h0 h1] at hc
    split at hc
    · rename_i h
      rw [List.all_eq_true] at h
      have := of_decide_eq_true (h z ((mem_com pa pb h0 h1 z).mpr hz))
      rw [same_at z0 z1] at this
      split at this
      · assumption
      · cases this
    · cases hc
  exact aumann pa pb hw.pos h0 h1 (get a k1) (get b k2)
end
end DL

set_option Elab.async false
set_option linter.all false
set_option maxRecDepth 100000
set_option maxHeartbeats 4000000
namespace DL
open PySem PySem.Spec PyProof.Rows L2
structure H39 (Γ : Gam) : Prop where
  tk : Γ.Φ "_law_take" = φTake
  lo : Γ.Φ "_law_lowest" = φ__law_lowest
  bl : Γ.Φ "_law_blocks" = φ__law_blocks
  lop : Γ.Φ "_law_opinions" = φ__law_opinions
  op : Γ.Φ "opinions" = φ_opinions
  o1 : Γ.Φ "opinion" = φ_opinion
  kn : Γ.Φ "knows" = φ_knows
  ofb : Γ.Φ "_law_of" = φ__law_of
  re : Γ.Φ "_law_reach" = φ__law_reach
  ck : Γ.Φ "commonly_known" = φ_commonly_known
  pa : Γ.Φ "_law_parted" = φ__law_parted
  ta : Γ.Φ "talk" = φ_talk
  ag : Γ.Φ "agreed" = φ_agreed
def loopBody : DL.St → Sts
  | .loop _ _ b => b
  | _ => .nil
def lb39 : Sts := loopBody (stsGet 0 d_law.body)
section
variable {Γ : Gam} {m : Nat} {w : List Rat} {s : Bs × Bs} {ev : List Int}
/-- any row with the draw -/
def Any39 (ρ : Rho) : Prop := ∃ y2 y3 y4 y5 y6 y7 y8 y9 y10 y11 y12 y13 y14 y15 y16 y17 y18 y19 y20 y21 y22, ρ = [none, some .dr, y2, y3, y4, y5, y6, y7, y8, y9, y10, y11, y12, y13, y14, y15, y16, y17, y18, y19, y20, y21, y22]
abbrev rowA (m : Nat) (w : List Rat) (s : Bs × Bs) (ev : List Int) (y2 y4 : Option Sl) (t : Rho) : Rho :=
  none :: some .dr :: y2 :: some (.fz (.int m)) :: y4 :: some (.fz (rowQ w)) :: some (.fz (gnD s.1)) :: some (.fz (gnD s.2)) :: some (.fz (rowI ev)) :: t
theorem dNeL2 {l : List (Bs × Bs)} {Q : D → Prop} (h : Q (.bool false)) : dNe (.list (l.map stD)) (.list (l.map stD)) Q := by
  have := dNeT (α := List (Bk × Bk)) (x := l.map toBk) (y := l.map toBk) (Q := Q) (by rw [decide_eq_true rfl]; exact h)
  have e : Td.d (l.map toBk) = PyData.list (l.map stD) := by
    show PyData.list ((l.map toBk).map Td.d) = _
    rw [List.map_map]
    rfl
  rw [e] at this
  exact this
/-- the talk -/
theorem seg_talk (g : H39 Γ) {K : Kt} (hw : Wt9 m w) (he : Ek m ev) (hs : Tst m s) (hK : ∀ ρ, Any39 ρ → K.nx ρ) {y2 y4 y9 y10 y11 y12 y13 y14 y15 y16 y17 y18 y19 y20 y21 y22 : Option Sl} :
    wpSs Γ (stsDrop 11 lb39) (rowA m w s ev y2 y4 [y9, y10, y11, y12, y13, y14, y15, y16, y17, y18, y19, y20, y21, y22]) K := by
  have m5 := hw.m5
  have m1 := hw.m1
  simp only [stsDrop, lb39, loopBody, stsGet, d_law, true_and, wpSs, wpS, wpE, wpX, wpO, wpC, wpI, ent, kt0, bindT, bindTs, tgsLen, wipeR, constD, owL, List.map_cons, List.map_nil, List.length_cons, List.length_nil, List.replicate, List.cons_append, List.nil_append, Nat.reduceSub, Nat.reduceAdd, List.getElem?_cons_zero, List.getElem?_cons_succ, List.getElem?_nil, List.set_cons_zero, List.set_cons_succ, opF, cmpF, Bi.fd, Option.map_some, if_true, if_false, Bool.true_eq_false, Bool.false_eq_true, reduceIte, Bool.not_true, Bool.not_false, w_some, w_none, w_fz0, w_fz1, w_t0, w_t1, w_t2, w_t3, w_t4, w_add, w_addL, w_addT, w_sub, w_subB, w_mul, w_mulL, w_mulT, w_mod, w_div, w_lt, w_le, w_gt, w_ge, w_is, w_isnt, w_n0, w_n1, w_n2, w_n3, w_n4, w_neg, w_atL, w_atT, w_lenL, w_lenT, w_tupL, w_tupT, w_lisL, w_lisT, w_abs, w_int, w_intB, w_gcd, w_min, w_max, w_seqL, w_seqT, w_augA, w_augS, w_augM, w_intQ, w_lstQ, w_rng1, w_rng2, w_zipL, w_zipT, w_zipM, w_zipN, w_enum, w_enumT, g.lop, g.pa, g.ta, g.ag]
  refine ⟨(bd7 (i := 2) (by decide) (by decide)).mulOk (bd7 (i := (m : Int)) (by omega) (by omega)) (by decide), rngOk_small (by omega) (by omega), ?_⟩
  rw [show (2 * (m : Int) + 1).toNat = 2 * m + 1 by omega, rangeD0]
  refine forW_ix (I := fun k ρ => ∃ n y16 y17 y18 y19, Mov w ev s n ∧ (n = k ∨ step w ev (itr w ev s n) = itr w ev s n) ∧ ρ = rowA m w s ev y2 y4 [y9, y10, y11, y12, y13, y14, some (.ow (.list ((its w ev s n).map stD))), y16, y17, y18, y19, y20, y21, y22]) ⟨0, _, _, _, _, fun i hi => absurd hi (by omega), .inl rfl, rfl⟩ (fun k ρ kk hk hI hkk => ?_) (fun ρ hI => ?_)
  · obtain ⟨n, y16, y17, y18, y19, hm, hor, rfl⟩ := hI
    have h := hs.itr (w := w) (ev := ev) n
    have ea := at_its w ev s n
    have el := its_len w ev s n
    have es := its_snoc w ev s n
    have hsn := hm.snoc
    have hn := Mov.le hs hm
    have hst : step w ev (itr w ev s n) = (prt (gw (ops w (itr w ev s n).2 ev)) (itr w ev s n).1, prt (gw (ops w (itr w ev s n).1 ev)) (itr w ev s n).2) := rfl
    have stay : step w ev (itr w ev s n) = itr w ev s n → ∀ y16 y17 y18 y19, kk (rowA m w s ev y2 y4 [y9, y10, y11, y12, y13, y14, some (.ow (.list ((its w ev s n).map stD))), y16, y17, y18, y19, y20, y21, y22]) := fun hc y16 y17 y18 y19 => hkk _ ⟨n, _, _, _, _, hm, .inr hc, rfl⟩
    have go : step w ev (itr w ev s n) ≠ itr w ev s n → ∀ y16 y17 y18 y19, kk (rowA m w s ev y2 y4 [y9, y10, y11, y12, y13, y14, some (.ow (.list ((its w ev s n).map stD ++ [stD (step w ev (itr w ev s n))]))), y16, y17, y18, y19, y20, y21, y22]) := fun hc y16 y17 y18 y19 => by
      refine hkk _ ⟨n + 1, y16, y17, y18, y19, hsn hc, .inl ?_, ?_⟩
      · rcases hor with h | h
        · rw [h]
        · exact absurd h hc
      · rw [es, List.map_append]
        rfl
    generalize its w ev s n = rows at *
    simp only [true_and, wpSs, wpS, wpE, wpX, wpO, wpC, wpI, ent, kt0, bindT, bindTs, tgsLen, wipeR, constD, owL, List.map_cons, List.map_nil, List.length_cons, List.length_nil, List.replicate, List.cons_append, List.nil_append, Nat.reduceSub, Nat.reduceAdd, List.getElem?_cons_zero, List.getElem?_cons_succ, List.getElem?_nil, List.set_cons_zero, List.set_cons_succ, opF, cmpF, Bi.fd, Option.map_some, if_true, if_false, Bool.true_eq_false, Bool.false_eq_true, reduceIte, Bool.not_true, Bool.not_false, w_some, w_none, w_fz0, w_fz1, w_t0, w_t1, w_t2, w_t3, w_t4, w_add, w_addL, w_addT, w_sub, w_subB, w_mul, w_mulL, w_mulT, w_mod, w_div, w_lt, w_le, w_gt, w_ge, w_is, w_isnt, w_n0, w_n1, w_n2, w_n3, w_n4, w_neg, w_atL, w_atT, w_lenL, w_lenT, w_tupL, w_tupT, w_lisL, w_lisT, w_abs, w_int, w_intB, w_gcd, w_min, w_max, w_seqL, w_seqT, w_augA, w_augS, w_augM, w_intQ, w_lstQ, w_rng1, w_rng2, w_zipL, w_zipT, w_zipM, w_zipN, w_enum, w_enumT, ea]
    generalize itr w ev s n = t at *
    simp only [stD, true_and, wpSs, wpS, wpE, wpX, wpO, wpC, wpI, ent, kt0, bindT, bindTs, tgsLen, wipeR, constD, owL, List.map_cons, List.map_nil, List.length_cons, List.length_nil, List.replicate, List.cons_append, List.nil_append, Nat.reduceSub, Nat.reduceAdd, List.getElem?_cons_zero, List.getElem?_cons_succ, List.getElem?_nil, List.set_cons_zero, List.set_cons_succ, opF, cmpF, Bi.fd, Option.map_some, if_true, if_false, Bool.true_eq_false, Bool.false_eq_true, reduceIte, Bool.not_true, Bool.not_false, w_some, w_none, w_fz0, w_fz1, w_t0, w_t1, w_t2, w_t3, w_t4, w_add, w_addL, w_addT, w_sub, w_subB, w_mul, w_mulL, w_mulT, w_mod, w_div, w_lt, w_le, w_gt, w_ge, w_is, w_isnt, w_n0, w_n1, w_n2, w_n3, w_n4, w_neg, w_atL, w_atT, w_lenL, w_lenT, w_tupL, w_tupT, w_lisL, w_lisT, w_abs, w_int, w_intB, w_gcd, w_min, w_max, w_seqL, w_seqT, w_augA, w_augS, w_augM, w_intQ, w_lstQ, w_rng1, w_rng2, w_zipL, w_zipT, w_zipM, w_zipN, w_enum, w_enumT]
    refine ⟨m, w, t.2, ev, rfl, hw, he, h.p2, ?_⟩
    refine ⟨m, t.1, _, rfl, m5, h.p1, by rw [ops_len, hw.len], ?_⟩
    refine ⟨m, w, t.1, ev, rfl, hw, he, h.p1, ?_⟩
    refine ⟨m, t.2, _, rfl, m5, h.p2, by rw [ops_len, hw.len], ?_⟩
    simp only [true_and, wpSs, wpS, wpE, wpX, wpO, wpC, wpI, ent, kt0, bindT, bindTs, tgsLen, wipeR, constD, owL, List.map_cons, List.map_nil, List.length_cons, List.length_nil, List.replicate, List.cons_append, List.nil_append, Nat.reduceSub, Nat.reduceAdd, List.getElem?_cons_zero, List.getElem?_cons_succ, List.getElem?_nil, List.set_cons_zero, List.set_cons_succ, opF, cmpF, Bi.fd, Option.map_some, if_true, if_false, Bool.true_eq_false, Bool.false_eq_true, reduceIte, Bool.not_true, Bool.not_false, w_some, w_none, w_fz0, w_fz1, w_t0, w_t1, w_t2, w_t3, w_t4, w_add, w_addL, w_addT, w_sub, w_subB, w_mul, w_mulL, w_mulT, w_mod, w_div, w_lt, w_le, w_gt, w_ge, w_is, w_isnt, w_n0, w_n1, w_n2, w_n3, w_n4, w_neg, w_atL, w_atT, w_lenL, w_lenT, w_tupL, w_tupT, w_lisL, w_lisT, w_abs, w_int, w_intB, w_gcd, w_min, w_max, w_seqL, w_seqT, w_augA, w_augS, w_augM, w_intQ, w_lstQ, w_rng1, w_rng2, w_zipL, w_zipT, w_zipM, w_zipN, w_enum, w_enumT, ea]
    have e3 : PyData.tuple [gnD (prt (gw (ops w t.2 ev)) t.1), gnD (prt (gw (ops w t.1 ev)) t.2)] = stD (step w ev t) := rfl
    rw [e3]
    refine dNeS2 ?_
    by_cases c : step w ev t = t
    · rw [decide_eq_true c]
      simp only [true_and, wpSs, wpS, wpE, wpX, wpO, wpC, wpI, ent, kt0, bindT, bindTs, tgsLen, wipeR, constD, owL, List.map_cons, List.map_nil, List.length_cons, List.length_nil, List.replicate, List.cons_append, List.nil_append, Nat.reduceSub, Nat.reduceAdd, List.getElem?_cons_zero, List.getElem?_cons_succ, List.getElem?_nil, List.set_cons_zero, List.set_cons_succ, opF, cmpF, Bi.fd, Option.map_some, if_true, if_false, Bool.true_eq_false, Bool.false_eq_true, reduceIte, Bool.not_true, Bool.not_false, w_some, w_none, w_fz0, w_fz1, w_t0, w_t1, w_t2, w_t3, w_t4, w_add, w_addL, w_addT, w_sub, w_subB, w_mul, w_mulL, w_mulT, w_mod, w_div, w_lt, w_le, w_gt, w_ge, w_is, w_isnt, w_n0, w_n1, w_n2, w_n3, w_n4, w_neg, w_atL, w_atT, w_lenL, w_lenT, w_tupL, w_tupT, w_lisL, w_lisT, w_abs, w_int, w_intB, w_gcd, w_min, w_max, w_seqL, w_seqT, w_augA, w_augS, w_augM, w_intQ, w_lstQ, w_rng1, w_rng2, w_zipL, w_zipT, w_zipM, w_zipN, w_enum, w_enumT]
      exact stay c _ _ _ _
    · rw [decide_eq_false c]
      simp only [true_and, wpSs, wpS, wpE, wpX, wpO, wpC, wpI, ent, kt0, bindT, bindTs, tgsLen, wipeR, constD, owL, List.map_cons, List.map_nil, List.length_cons, List.length_nil, List.replicate, List.cons_append, List.nil_append, Nat.reduceSub, Nat.reduceAdd, List.getElem?_cons_zero, List.getElem?_cons_succ, List.getElem?_nil, List.set_cons_zero, List.set_cons_succ, opF, cmpF, Bi.fd, Option.map_some, if_true, if_false, Bool.true_eq_false, Bool.false_eq_true, reduceIte, Bool.not_true, Bool.not_false, w_some, w_none, w_fz0, w_fz1, w_t0, w_t1, w_t2, w_t3, w_t4, w_add, w_addL, w_addT, w_sub, w_subB, w_mul, w_mulL, w_mulT, w_mod, w_div, w_lt, w_le, w_gt, w_ge, w_is, w_isnt, w_n0, w_n1, w_n2, w_n3, w_n4, w_neg, w_atL, w_atT, w_lenL, w_lenT, w_tupL, w_tupT, w_lisL, w_lisT, w_abs, w_int, w_intB, w_gcd, w_min, w_max, w_seqL, w_seqT, w_augA, w_augS, w_augM, w_intQ, w_lstQ, w_rng1, w_rng2, w_zipL, w_zipT, w_zipM, w_zipN, w_enum, w_enumT]
      exact ⟨by rw [List.length_map, el]; exact small1000 (by omega), go c _ _ _ _⟩
  · obtain ⟨n, y16, y17, y18, y19, hm, hor, rfl⟩ := hI
    have hn := Mov.le hs hm
    have hrest : step w ev (itr w ev s n) = itr w ev s n := by
      rcases hor with h | h
      · omega
      · exact h
    have h := hs.itr (w := w) (ev := ev) n
    have one := rest_one h hw.len hw.pos hrest
    have ea := at_its w ev s n
    simp only [true_and, wpSs, wpS, wpE, wpX, wpO, wpC, wpI, ent, kt0, bindT, bindTs, tgsLen, wipeR, constD, owL, List.map_cons, List.map_nil, List.length_cons, List.length_nil, List.replicate, List.cons_append, List.nil_append, Nat.reduceSub, Nat.reduceAdd, List.getElem?_cons_zero, List.getElem?_cons_succ, List.getElem?_nil, List.set_cons_zero, List.set_cons_succ, opF, cmpF, Bi.fd, Option.map_some, if_true, if_false, Bool.true_eq_false, Bool.false_eq_true, reduceIte, Bool.not_true, Bool.not_false, w_some, w_none, w_fz0, w_fz1, w_t0, w_t1, w_t2, w_t3, w_t4, w_add, w_addL, w_addT, w_sub, w_subB, w_mul, w_mulL, w_mulT, w_mod, w_div, w_lt, w_le, w_gt, w_ge, w_is, w_isnt, w_n0, w_n1, w_n2, w_n3, w_n4, w_neg, w_atL, w_atT, w_lenL, w_lenT, w_tupL, w_tupT, w_lisL, w_lisT, w_abs, w_int, w_intB, w_gcd, w_min, w_max, w_seqL, w_seqT, w_augA, w_augS, w_augM, w_intQ, w_lstQ, w_rng1, w_rng2, w_zipL, w_zipT, w_zipM, w_zipN, w_enum, w_enumT]
    refine ⟨m, w, s, ev, rfl, hw, he, hs, fun n' hn' => ?_⟩
    have en : n' = n := Mov.one hn'.1 hm hn'.2 hrest
    subst en
    simp only [true_and, wpSs, wpS, wpE, wpX, wpO, wpC, wpI, ent, kt0, bindT, bindTs, tgsLen, wipeR, constD, owL, List.map_cons, List.map_nil, List.length_cons, List.length_nil, List.replicate, List.cons_append, List.nil_append, Nat.reduceSub, Nat.reduceAdd, List.getElem?_cons_zero, List.getElem?_cons_succ, List.getElem?_nil, List.set_cons_zero, List.set_cons_succ, opF, cmpF, Bi.fd, Option.map_some, if_true, if_false, Bool.true_eq_false, Bool.false_eq_true, reduceIte, Bool.not_true, Bool.not_false, w_some, w_none, w_fz0, w_fz1, w_t0, w_t1, w_t2, w_t3, w_t4, w_add, w_addL, w_addT, w_sub, w_subB, w_mul, w_mulL, w_mulT, w_mod, w_div, w_lt, w_le, w_gt, w_ge, w_is, w_isnt, w_n0, w_n1, w_n2, w_n3, w_n4, w_neg, w_atL, w_atT, w_lenL, w_lenT, w_tupL, w_tupT, w_lisL, w_lisT, w_abs, w_int, w_intB, w_gcd, w_min, w_max, w_seqL, w_seqT, w_augA, w_augS, w_augM, w_intQ, w_lstQ, w_rng1, w_rng2, w_zipL, w_zipT, w_zipM, w_zipN, w_enum, w_enumT]
    refine dNeL2 ?_
    simp only [true_and, wpSs, wpS, wpE, wpX, wpO, wpC, wpI, ent, kt0, bindT, bindTs, tgsLen, wipeR, constD, owL, List.map_cons, List.map_nil, List.length_cons, List.length_nil, List.replicate, List.cons_append, List.nil_append, Nat.reduceSub, Nat.reduceAdd, List.getElem?_cons_zero, List.getElem?_cons_succ, List.getElem?_nil, List.set_cons_zero, List.set_cons_succ, opF, cmpF, Bi.fd, Option.map_some, if_true, if_false, Bool.true_eq_false, Bool.false_eq_true, reduceIte, Bool.not_true, Bool.not_false, w_some, w_none, w_fz0, w_fz1, w_t0, w_t1, w_t2, w_t3, w_t4, w_add, w_addL, w_addT, w_sub, w_subB, w_mul, w_mulL, w_mulT, w_mod, w_div, w_lt, w_le, w_gt, w_ge, w_is, w_isnt, w_n0, w_n1, w_n2, w_n3, w_n4, w_neg, w_atL, w_atT, w_lenL, w_lenT, w_tupL, w_tupT, w_lisL, w_lisT, w_abs, w_int, w_intB, w_gcd, w_min, w_max, w_seqL, w_seqT, w_augA, w_augS, w_augM, w_intQ, w_lstQ, w_rng1, w_rng2, w_zipL, w_zipT, w_zipM, w_zipN, w_enum, w_enumT, wi_list_l, ea]
    simp only [stD, true_and, wpSs, wpS, wpE, wpX, wpO, wpC, wpI, ent, kt0, bindT, bindTs, tgsLen, wipeR, constD, owL, List.map_cons, List.map_nil, List.length_cons, List.length_nil, List.replicate, List.cons_append, List.nil_append, Nat.reduceSub, Nat.reduceAdd, List.getElem?_cons_zero, List.getElem?_cons_succ, List.getElem?_nil, List.set_cons_zero, List.set_cons_succ, opF, cmpF, Bi.fd, Option.map_some, if_true, if_false, Bool.true_eq_false, Bool.false_eq_true, reduceIte, Bool.not_true, Bool.not_false, w_some, w_none, w_fz0, w_fz1, w_t0, w_t1, w_t2, w_t3, w_t4, w_add, w_addL, w_addT, w_sub, w_subB, w_mul, w_mulL, w_mulT, w_mod, w_div, w_lt, w_le, w_gt, w_ge, w_is, w_isnt, w_n0, w_n1, w_n2, w_n3, w_n4, w_neg, w_atL, w_atT, w_lenL, w_lenT, w_tupL, w_tupT, w_lisL, w_lisT, w_abs, w_int, w_intB, w_gcd, w_min, w_max, w_seqL, w_seqT, w_augA, w_augS, w_augM, w_intQ, w_lstQ, w_rng1, w_rng2, w_zipL, w_zipT, w_zipM, w_zipN, w_enum, w_enumT, atI0, atI1]
    refine ⟨m, w, _, ev, rfl, hw, he, h.p1, ?_⟩
    refine ⟨m, w, _, ev, rfl, hw, he, h.p2, ?_⟩
    rw [one]
    refine dNeRowQ_same ?_
    simp only [true_and, wpSs, wpS, wpE, wpX, wpO, wpC, wpI, ent, kt0, bindT, bindTs, tgsLen, wipeR, constD, owL, List.map_cons, List.map_nil, List.length_cons, List.length_nil, List.replicate, List.cons_append, List.nil_append, Nat.reduceSub, Nat.reduceAdd, List.getElem?_cons_zero, List.getElem?_cons_succ, List.getElem?_nil, List.set_cons_zero, List.set_cons_succ, opF, cmpF, Bi.fd, Option.map_some, if_true, if_false, Bool.true_eq_false, Bool.false_eq_true, reduceIte, Bool.not_true, Bool.not_false, w_some, w_none, w_fz0, w_fz1, w_t0, w_t1, w_t2, w_t3, w_t4, w_add, w_addL, w_addT, w_sub, w_subB, w_mul, w_mulL, w_mulT, w_mod, w_div, w_lt, w_le, w_gt, w_ge, w_is, w_isnt, w_n0, w_n1, w_n2, w_n3, w_n4, w_neg, w_atL, w_atT, w_lenL, w_lenT, w_tupL, w_tupT, w_lisL, w_lisT, w_abs, w_int, w_intB, w_gcd, w_min, w_max, w_seqL, w_seqT, w_augA, w_augS, w_augM, w_intQ, w_lstQ, w_rng1, w_rng2, w_zipL, w_zipT, w_zipM, w_zipN, w_enum, w_enumT]
    refine ⟨m, w, s, ev, rfl, hw, he, hs, fun n'' hn'' => ?_⟩
    have en : n'' = n' := Mov.one hn''.1 hm hn''.2 hrest
    subst en
    rw [one]
    refine dNeRowQ_same ?_
    simp only [true_and, wpSs, wpS, wpE, wpX, wpO, wpC, wpI, ent, kt0, bindT, bindTs, tgsLen, wipeR, constD, owL, List.map_cons, List.map_nil, List.length_cons, List.length_nil, List.replicate, List.cons_append, List.nil_append, Nat.reduceSub, Nat.reduceAdd, List.getElem?_cons_zero, List.getElem?_cons_succ, List.getElem?_nil, List.set_cons_zero, List.set_cons_succ, opF, cmpF, Bi.fd, Option.map_some, if_true, if_false, Bool.true_eq_false, Bool.false_eq_true, reduceIte, Bool.not_true, Bool.not_false, w_some, w_none, w_fz0, w_fz1, w_t0, w_t1, w_t2, w_t3, w_t4, w_add, w_addL, w_addT, w_sub, w_subB, w_mul, w_mulL, w_mulT, w_mod, w_div, w_lt, w_le, w_gt, w_ge, w_is, w_isnt, w_n0, w_n1, w_n2, w_n3, w_n4, w_neg, w_atL, w_atT, w_lenL, w_lenT, w_tupL, w_tupT, w_lisL, w_lisT, w_abs, w_int, w_intB, w_gcd, w_min, w_max, w_seqL, w_seqT, w_augA, w_augS, w_augM, w_intQ, w_lstQ, w_rng1, w_rng2, w_zipL, w_zipT, w_zipM, w_zipN, w_enum, w_enumT]
    exact hK _ ⟨_, _, _, _, _, _, _, _, _, _, _, _, _, _, _, _, _, _, _, _, _, rfl⟩
/-- the loop over x: Aumann -/
theorem seg_x (g : H39 Γ) {K : Kt} (hw : Wt9 m w) (he : Ek m ev) (hs : Tst m s) (hK : ∀ ρ, Any39 ρ → K.nx ρ) {y2 y4 y11 y12 y13 y14 y15 y16 y17 y18 y19 y20 y21 y22 : Option Sl} :
    wpSs Γ (stsDrop 10 lb39) (rowA m w s ev y2 y4 [some (.fz (rowQ (ops w s.1 ev))), some (.fz (rowQ (ops w s.2 ev))), y11, y12, y13, y14, y15, y16, y17, y18, y19, y20, y21, y22]) K := by
  have m5 := hw.m5
  have m1 := hw.m1
  have fin := fun y13 y14 y12 => seg_talk g (K := K) hw he hs hK (y2 := y2) (y4 := y4) (y9 := some (.fz (rowQ (ops w s.1 ev)))) (y10 := some (.fz (rowQ (ops w s.2 ev)))) (y11 := y11) (y12 := y12) (y13 := y13) (y14 := y14) (y15 := y15) (y16 := y16) (y17 := y17) (y18 := y18) (y19 := y19) (y20 := y20) (y21 := y21) (y22 := y22)
  have e : stsDrop 10 lb39 = .cons (stsGet 10 lb39) (stsDrop 11 lb39) := rfl
  rw [e]
  generalize stsDrop 11 lb39 = T at fin ⊢
  simp only [lb39, loopBody, stsGet, d_law, true_and, wpSs, wpS, wpE, wpX, wpO, wpC, wpI, ent, kt0, bindT, bindTs, tgsLen, wipeR, constD, owL, List.map_cons, List.map_nil, List.length_cons, List.length_nil, List.replicate, List.cons_append, List.nil_append, Nat.reduceSub, Nat.reduceAdd, List.getElem?_cons_zero, List.getElem?_cons_succ, List.getElem?_nil, List.set_cons_zero, List.set_cons_succ, opF, cmpF, Bi.fd, Option.map_some, if_true, if_false, Bool.true_eq_false, Bool.false_eq_true, reduceIte, Bool.not_true, Bool.not_false, w_some, w_none, w_fz0, w_fz1, w_t0, w_t1, w_t2, w_t3, w_t4, w_add, w_addL, w_addT, w_sub, w_subB, w_mul, w_mulL, w_mulT, w_mod, w_div, w_lt, w_le, w_gt, w_ge, w_is, w_isnt, w_n0, w_n1, w_n2, w_n3, w_n4, w_neg, w_atL, w_atT, w_lenL, w_lenT, w_tupL, w_tupT, w_lisL, w_lisT, w_abs, w_int, w_intB, w_gcd, w_min, w_max, w_seqL, w_seqT, w_augA, w_augS, w_augM, w_intQ, w_lstQ, w_rng1, w_rng2, w_zipL, w_zipT, w_zipM, w_zipN, w_enum, w_enumT, g.ck]
  refine ⟨rngOk_small (by omega) (by omega), ?_⟩
  rw [Int.toNat_natCast, rangeD0]
  have l1 : (ops w s.1 ev).length = m := by rw [ops_len, hw.len]
  have l2 : (ops w s.2 ev).length = m := by rw [ops_len, hw.len]
  refine forW_ix (I := fun k ρ => ∃ y12 y13 y14, ρ = rowA m w s ev y2 y4 [some (.fz (rowQ (ops w s.1 ev))), some (.fz (rowQ (ops w s.2 ev))), y11, y12, y13, y14, y15, y16, y17, y18, y19, y20, y21, y22]) ⟨_, _, _, rfl⟩ (fun x ρ kk hx hI hkk => ?_) (fun ρ hI => ?_)
  · obtain ⟨y12, y13, y14, rfl⟩ := hI
    have x0 : (0 : Int) ≤ (x : Int) := by omega
    have x1 : (x : Int) < m := by omega
    have a1 := at_gw (l := ops w s.1 ev) x0 (by omega)
    have a2 := at_gw (l := ops w s.2 ev) x0 (by omega)
    rw [ops_at hw.len x0 x1] at a1 a2
    have done : ∀ y12 y13 y14, kk (rowA m w s ev y2 y4 [some (.fz (rowQ (ops w s.1 ev))), some (.fz (rowQ (ops w s.2 ev))), y11, y12, y13, y14, y15, y16, y17, y18, y19, y20, y21, y22]) := fun _ _ _ => hkk _ ⟨_, _, _, rfl⟩
    have b1 := fun (z : Nat) (h : z < m) => (at_gw (l := ops w s.1 ev) (z := (z : Int)) (by omega) (by omega)).trans (by rw [ops_at hw.len (by omega) (by omega)])
    have b2 := fun (z : Nat) (h : z < m) => (at_gw (l := ops w s.2 ev) (z := (z : Int)) (by omega) (by omega)).trans (by rw [ops_at hw.len (by omega) (by omega)])
    have k1 : sameL m w s.1 ev x = (List.range m).map fun (z : Nat) => if opn w s.1 ev z = opn w s.1 ev x then 1 else 0 := rfl
    have k2 : sameL m w s.2 ev x = (List.range m).map fun (z : Nat) => if opn w s.2 ev z = opn w s.2 ev x then 1 else 0 := rfl
    have one := both_one (ev := ev) hw hs.p1 hs.p2 x0 x1
    simp only [true_and, wpSs, wpS, wpE, wpX, wpO, wpC, wpI, ent, kt0, bindT, bindTs, tgsLen, wipeR, constD, owL, List.map_cons, List.map_nil, List.length_cons, List.length_nil, List.replicate, List.cons_append, List.nil_append, Nat.reduceSub, Nat.reduceAdd, List.getElem?_cons_zero, List.getElem?_cons_succ, List.getElem?_nil, List.set_cons_zero, List.set_cons_succ, opF, cmpF, Bi.fd, Option.map_some, if_true, if_false, Bool.true_eq_false, Bool.false_eq_true, reduceIte, Bool.not_true, Bool.not_false, w_some, w_none, w_fz0, w_fz1, w_t0, w_t1, w_t2, w_t3, w_t4, w_add, w_addL, w_addT, w_sub, w_subB, w_mul, w_mulL, w_mulT, w_mod, w_div, w_lt, w_le, w_gt, w_ge, w_is, w_isnt, w_n0, w_n1, w_n2, w_n3, w_n4, w_neg, w_atL, w_atT, w_lenL, w_lenT, w_tupL, w_tupT, w_lisL, w_lisT, w_abs, w_int, w_intB, w_gcd, w_min, w_max, w_seqL, w_seqT, w_augA, w_augS, w_augM, w_intQ, w_lstQ, w_rng1, w_rng2, w_zipL, w_zipT, w_zipM, w_zipN, w_enum, w_enumT, rowQ]
    refine ⟨rngOk_small (by omega) (by omega), ?_⟩
    rw [Int.toNat_natCast, rangeD0]
    refine ⟨by rw [List.length_map, List.length_range]; exact small (by omega), ?_⟩
    refine foldW_map (fun (z : Nat) => PyData.int (if opn w s.1 ev z = opn w s.1 ev x then 1 else 0)) (fun z acc k3 hz hk3 => ?_) ?_
    · have hz := List.mem_range.mp hz
      simp only [true_and, wpSs, wpS, wpE, wpX, wpO, wpC, wpI, ent, kt0, bindT, bindTs, tgsLen, wipeR, constD, owL, List.map_cons, List.map_nil, List.length_cons, List.length_nil, List.replicate, List.cons_append, List.nil_append, Nat.reduceSub, Nat.reduceAdd, List.getElem?_cons_zero, List.getElem?_cons_succ, List.getElem?_nil, List.set_cons_zero, List.set_cons_succ, opF, cmpF, Bi.fd, Option.map_some, if_true, if_false, Bool.true_eq_false, Bool.false_eq_true, reduceIte, Bool.not_true, Bool.not_false, w_some, w_none, w_fz0, w_fz1, w_t0, w_t1, w_t2, w_t3, w_t4, w_add, w_addL, w_addT, w_sub, w_subB, w_mul, w_mulL, w_mulT, w_mod, w_div, w_lt, w_le, w_gt, w_ge, w_is, w_isnt, w_n0, w_n1, w_n2, w_n3, w_n4, w_neg, w_atL, w_atT, w_lenL, w_lenT, w_tupL, w_tupT, w_lisL, w_lisT, w_abs, w_int, w_intB, w_gcd, w_min, w_max, w_seqL, w_seqT, w_augA, w_augS, w_augM, w_intQ, w_lstQ, w_rng1, w_rng2, w_zipL, w_zipT, w_zipM, w_zipN, w_enum, w_enumT, b1 z hz, a1]
      refine dEqQ ?_
      by_cases c : opn w s.1 ev z = opn w s.1 ev x
      · rw [if_pos c] at hk3
        rw [decide_eq_true c]
        simp only [true_and, wpSs, wpS, wpE, wpX, wpO, wpC, wpI, ent, kt0, bindT, bindTs, tgsLen, wipeR, constD, owL, List.map_cons, List.map_nil, List.length_cons, List.length_nil, List.replicate, List.cons_append, List.nil_append, Nat.reduceSub, Nat.reduceAdd, List.getElem?_cons_zero, List.getElem?_cons_succ, List.getElem?_nil, List.set_cons_zero, List.set_cons_succ, opF, cmpF, Bi.fd, Option.map_some, if_true, if_false, Bool.true_eq_false, Bool.false_eq_true, reduceIte, Bool.not_true, Bool.not_false, w_some, w_none, w_fz0, w_fz1, w_t0, w_t1, w_t2, w_t3, w_t4, w_add, w_addL, w_addT, w_sub, w_subB, w_mul, w_mulL, w_mulT, w_mod, w_div, w_lt, w_le, w_gt, w_ge, w_is, w_isnt, w_n0, w_n1, w_n2, w_n3, w_n4, w_neg, w_atL, w_atT, w_lenL, w_lenT, w_tupL, w_tupT, w_lisL, w_lisT, w_abs, w_int, w_intB, w_gcd, w_min, w_max, w_seqL, w_seqT, w_augA, w_augS, w_augM, w_intQ, w_lstQ, w_rng1, w_rng2, w_zipL, w_zipT, w_zipM, w_zipN, w_enum, w_enumT]
        exact hk3
      · rw [if_neg c] at hk3
        rw [decide_eq_false c]
        simp only [true_and, wpSs, wpS, wpE, wpX, wpO, wpC, wpI, ent, kt0, bindT, bindTs, tgsLen, wipeR, constD, owL, List.map_cons, List.map_nil, List.length_cons, List.length_nil, List.replicate, List.cons_append, List.nil_append, Nat.reduceSub, Nat.reduceAdd, List.getElem?_cons_zero, List.getElem?_cons_succ, List.getElem?_nil, List.set_cons_zero, List.set_cons_succ, opF, cmpF, Bi.fd, Option.map_some, if_true, if_false, Bool.true_eq_false, Bool.false_eq_true, reduceIte, Bool.not_true, Bool.not_false, w_some, w_none, w_fz0, w_fz1, w_t0, w_t1, w_t2, w_t3, w_t4, w_add, w_addL, w_addT, w_sub, w_subB, w_mul, w_mulL, w_mulT, w_mod, w_div, w_lt, w_le, w_gt, w_ge, w_is, w_isnt, w_n0, w_n1, w_n2, w_n3, w_n4, w_neg, w_atL, w_atT, w_lenL, w_lenT, w_tupL, w_tupT, w_lisL, w_lisT, w_abs, w_int, w_intB, w_gcd, w_min, w_max, w_seqL, w_seqT, w_augA, w_augS, w_augM, w_intQ, w_lstQ, w_rng1, w_rng2, w_zipL, w_zipT, w_zipM, w_zipN, w_enum, w_enumT]
        exact hk3
    have e1 : (List.range m).map (fun (z : Nat) => PyData.int (if opn w s.1 ev z = opn w s.1 ev x then 1 else 0)) = (sameL m w s.1 ev x).map PyData.int := by
      rw [k1, List.map_map]
      rfl
    rw [e1]
    refine ⟨rngOk_small (by omega) (by omega), ⟨by rw [List.length_map, List.length_range]; exact small (by omega), ?_⟩⟩
    refine foldW_map (fun (z : Nat) => PyData.int (if opn w s.2 ev z = opn w s.2 ev x then 1 else 0)) (fun z acc k3 hz hk3 => ?_) ?_
    · have hz := List.mem_range.mp hz
      simp only [true_and, wpSs, wpS, wpE, wpX, wpO, wpC, wpI, ent, kt0, bindT, bindTs, tgsLen, wipeR, constD, owL, List.map_cons, List.map_nil, List.length_cons, List.length_nil, List.replicate, List.cons_append, List.nil_append, Nat.reduceSub, Nat.reduceAdd, List.getElem?_cons_zero, List.getElem?_cons_succ, List.getElem?_nil, List.set_cons_zero, List.set_cons_succ, opF, cmpF, Bi.fd, Option.map_some, if_true, if_false, Bool.true_eq_false, Bool.false_eq_true, reduceIte, Bool.not_true, Bool.not_false, w_some, w_none, w_fz0, w_fz1, w_t0, w_t1, w_t2, w_t3, w_t4, w_add, w_addL, w_addT, w_sub, w_subB, w_mul, w_mulL, w_mulT, w_mod, w_div, w_lt, w_le, w_gt, w_ge, w_is, w_isnt, w_n0, w_n1, w_n2, w_n3, w_n4, w_neg, w_atL, w_atT, w_lenL, w_lenT, w_tupL, w_tupT, w_lisL, w_lisT, w_abs, w_int, w_intB, w_gcd, w_min, w_max, w_seqL, w_seqT, w_augA, w_augS, w_augM, w_intQ, w_lstQ, w_rng1, w_rng2, w_zipL, w_zipT, w_zipM, w_zipN, w_enum, w_enumT, b2 z hz, a2]
      refine dEqQ ?_
      by_cases c : opn w s.2 ev z = opn w s.2 ev x
      · rw [if_pos c] at hk3
        rw [decide_eq_true c]
        simp only [true_and, wpSs, wpS, wpE, wpX, wpO, wpC, wpI, ent, kt0, bindT, bindTs, tgsLen, wipeR, constD, owL, List.map_cons, List.map_nil, List.length_cons, List.length_nil, List.replicate, List.cons_append, List.nil_append, Nat.reduceSub, Nat.reduceAdd, List.getElem?_cons_zero, List.getElem?_cons_succ, List.getElem?_nil, List.set_cons_zero, List.set_cons_succ, opF, cmpF, Bi.fd, Option.map_some, if_true, if_false, Bool.true_eq_false, Bool.false_eq_true, reduceIte, Bool.not_true, Bool.not_false, w_some, w_none, w_fz0, w_fz1, w_t0, w_t1, w_t2, w_t3, w_t4, w_add, w_addL, w_addT, w_sub, w_subB, w_mul, w_mulL, w_mulT, w_mod, w_div, w_lt, w_le, w_gt, w_ge, w_is, w_isnt, w_n0, w_n1, w_n2, w_n3, w_n4, w_neg, w_atL, w_atT, w_lenL, w_lenT, w_tupL, w_tupT, w_lisL, w_lisT, w_abs, w_int, w_intB, w_gcd, w_min, w_max, w_seqL, w_seqT, w_augA, w_augS, w_augM, w_intQ, w_lstQ, w_rng1, w_rng2, w_zipL, w_zipT, w_zipM, w_zipN, w_enum, w_enumT]
        exact hk3
      · rw [if_neg c] at hk3
        rw [decide_eq_false c]
        simp only [true_and, wpSs, wpS, wpE, wpX, wpO, wpC, wpI, ent, kt0, bindT, bindTs, tgsLen, wipeR, constD, owL, List.map_cons, List.map_nil, List.length_cons, List.length_nil, List.replicate, List.cons_append, List.nil_append, Nat.reduceSub, Nat.reduceAdd, List.getElem?_cons_zero, List.getElem?_cons_succ, List.getElem?_nil, List.set_cons_zero, List.set_cons_succ, opF, cmpF, Bi.fd, Option.map_some, if_true, if_false, Bool.true_eq_false, Bool.false_eq_true, reduceIte, Bool.not_true, Bool.not_false, w_some, w_none, w_fz0, w_fz1, w_t0, w_t1, w_t2, w_t3, w_t4, w_add, w_addL, w_addT, w_sub, w_subB, w_mul, w_mulL, w_mulT, w_mod, w_div, w_lt, w_le, w_gt, w_ge, w_is, w_isnt, w_n0, w_n1, w_n2, w_n3, w_n4, w_neg, w_atL, w_atT, w_lenL, w_lenT, w_tupL, w_tupT, w_lisL, w_lisT, w_abs, w_int, w_intB, w_gcd, w_min, w_max, w_seqL, w_seqT, w_augA, w_augS, w_augM, w_intQ, w_lstQ, w_rng1, w_rng2, w_zipL, w_zipT, w_zipM, w_zipN, w_enum, w_enumT]
        exact hk3
    have e2 : (List.range m).map (fun (z : Nat) => PyData.int (if opn w s.2 ev z = opn w s.2 ev x then 1 else 0)) = (sameL m w s.2 ev x).map PyData.int := by
      rw [k2, List.map_map]
      rfl
    rw [e2]
    have ek1 := same_ek (m := m) (bs := s.1) (w := w) (ev := ev) (x := x)
    have ek2 := same_ek (m := m) (bs := s.2) (w := w) (ev := ev) (x := x)
    refine ⟨m, s.1, s.2, _, rfl, m5, ek1, hs.p1, hs.p2, ?_⟩
    have g1 := at_ge (l := kn m (com m (s.1 ++ s.2)) (sameL m w s.1 ev x)) x0 (by rw [kn_len]; exact x1)
    have g2 := at_ge (l := kn m (com m (s.1 ++ s.2)) (sameL m w s.2 ev x)) x0 (by rw [kn_len]; exact x1)
    simp only [true_and, wpSs, wpS, wpE, wpX, wpO, wpC, wpI, ent, kt0, bindT, bindTs, tgsLen, wipeR, constD, owL, List.map_cons, List.map_nil, List.length_cons, List.length_nil, List.replicate, List.cons_append, List.nil_append, Nat.reduceSub, Nat.reduceAdd, List.getElem?_cons_zero, List.getElem?_cons_succ, List.getElem?_nil, List.set_cons_zero, List.set_cons_succ, opF, cmpF, Bi.fd, Option.map_some, if_true, if_false, Bool.true_eq_false, Bool.false_eq_true, reduceIte, Bool.not_true, Bool.not_false, w_some, w_none, w_fz0, w_fz1, w_t0, w_t1, w_t2, w_t3, w_t4, w_add, w_addL, w_addT, w_sub, w_subB, w_mul, w_mulL, w_mulT, w_mod, w_div, w_lt, w_le, w_gt, w_ge, w_is, w_isnt, w_n0, w_n1, w_n2, w_n3, w_n4, w_neg, w_atL, w_atT, w_lenL, w_lenT, w_tupL, w_tupT, w_lisL, w_lisT, w_abs, w_int, w_intB, w_gcd, w_min, w_max, w_seqL, w_seqT, w_augA, w_augS, w_augM, w_intQ, w_lstQ, w_rng1, w_rng2, w_zipL, w_zipT, w_zipM, w_zipN, w_enum, w_enumT, rowI, g1]
    refine dEqI ?_
    by_cases c1 : ge (kn m (com m (s.1 ++ s.2)) (sameL m w s.1 ev x)) x = 1
    · rw [decide_eq_true c1]
      simp only [true_and, wpSs, wpS, wpE, wpX, wpO, wpC, wpI, ent, kt0, bindT, bindTs, tgsLen, wipeR, constD, owL, List.map_cons, List.map_nil, List.length_cons, List.length_nil, List.replicate, List.cons_append, List.nil_append, Nat.reduceSub, Nat.reduceAdd, List.getElem?_cons_zero, List.getElem?_cons_succ, List.getElem?_nil, List.set_cons_zero, List.set_cons_succ, opF, cmpF, Bi.fd, Option.map_some, if_true, if_false, Bool.true_eq_false, Bool.false_eq_true, reduceIte, Bool.not_true, Bool.not_false, w_some, w_none, w_fz0, w_fz1, w_t0, w_t1, w_t2, w_t3, w_t4, w_add, w_addL, w_addT, w_sub, w_subB, w_mul, w_mulL, w_mulT, w_mod, w_div, w_lt, w_le, w_gt, w_ge, w_is, w_isnt, w_n0, w_n1, w_n2, w_n3, w_n4, w_neg, w_atL, w_atT, w_lenL, w_lenT, w_tupL, w_tupT, w_lisL, w_lisT, w_abs, w_int, w_intB, w_gcd, w_min, w_max, w_seqL, w_seqT, w_augA, w_augS, w_augM, w_intQ, w_lstQ, w_rng1, w_rng2, w_zipL, w_zipT, w_zipM, w_zipN, w_enum, w_enumT]
      refine ⟨m, s.1, s.2, _, rfl, m5, ek2, hs.p1, hs.p2, ?_⟩
      simp only [true_and, wpSs, wpS, wpE, wpX, wpO, wpC, wpI, ent, kt0, bindT, bindTs, tgsLen, wipeR, constD, owL, List.map_cons, List.map_nil, List.length_cons, List.length_nil, List.replicate, List.cons_append, List.nil_append, Nat.reduceSub, Nat.reduceAdd, List.getElem?_cons_zero, List.getElem?_cons_succ, List.getElem?_nil, List.set_cons_zero, List.set_cons_succ, opF, cmpF, Bi.fd, Option.map_some, if_true, if_false, Bool.true_eq_false, Bool.false_eq_true, reduceIte, Bool.not_true, Bool.not_false, w_some, w_none, w_fz0, w_fz1, w_t0, w_t1, w_t2, w_t3, w_t4, w_add, w_addL, w_addT, w_sub, w_subB, w_mul, w_mulL, w_mulT, w_mod, w_div, w_lt, w_le, w_gt, w_ge, w_is, w_isnt, w_n0, w_n1, w_n2, w_n3, w_n4, w_neg, w_atL, w_atT, w_lenL, w_lenT, w_tupL, w_tupT, w_lisL, w_lisT, w_abs, w_int, w_intB, w_gcd, w_min, w_max, w_seqL, w_seqT, w_augA, w_augS, w_augM, w_intQ, w_lstQ, w_rng1, w_rng2, w_zipL, w_zipT, w_zipM, w_zipN, w_enum, w_enumT, rowI, g2]
      refine dEqI ?_
      by_cases c2 : ge (kn m (com m (s.1 ++ s.2)) (sameL m w s.2 ev x)) x = 1
      · rw [decide_eq_true c2]
        simp only [true_and, wpSs, wpS, wpE, wpX, wpO, wpC, wpI, ent, kt0, bindT, bindTs, tgsLen, wipeR, constD, owL, List.map_cons, List.map_nil, List.length_cons, List.length_nil, List.replicate, List.cons_append, List.nil_append, Nat.reduceSub, Nat.reduceAdd, List.getElem?_cons_zero, List.getElem?_cons_succ, List.getElem?_nil, List.set_cons_zero, List.set_cons_succ, opF, cmpF, Bi.fd, Option.map_some, if_true, if_false, Bool.true_eq_false, Bool.false_eq_true, reduceIte, Bool.not_true, Bool.not_false, w_some, w_none, w_fz0, w_fz1, w_t0, w_t1, w_t2, w_t3, w_t4, w_add, w_addL, w_addT, w_sub, w_subB, w_mul, w_mulL, w_mulT, w_mod, w_div, w_lt, w_le, w_gt, w_ge, w_is, w_isnt, w_n0, w_n1, w_n2, w_n3, w_n4, w_neg, w_atL, w_atT, w_lenL, w_lenT, w_tupL, w_tupT, w_lisL, w_lisT, w_abs, w_int, w_intB, w_gcd, w_min, w_max, w_seqL, w_seqT, w_augA, w_augS, w_augM, w_intQ, w_lstQ, w_rng1, w_rng2, w_zipL, w_zipT, w_zipM, w_zipN, w_enum, w_enumT, a1, a2]
        refine dNeQ ?_
        rw [decide_eq_true (one c1 c2)]
        simp only [true_and, wpSs, wpS, wpE, wpX, wpO, wpC, wpI, ent, kt0, bindT, bindTs, tgsLen, wipeR, constD, owL, List.map_cons, List.map_nil, List.length_cons, List.length_nil, List.replicate, List.cons_append, List.nil_append, Nat.reduceSub, Nat.reduceAdd, List.getElem?_cons_zero, List.getElem?_cons_succ, List.getElem?_nil, List.set_cons_zero, List.set_cons_succ, opF, cmpF, Bi.fd, Option.map_some, if_true, if_false, Bool.true_eq_false, Bool.false_eq_true, reduceIte, Bool.not_true, Bool.not_false, w_some, w_none, w_fz0, w_fz1, w_t0, w_t1, w_t2, w_t3, w_t4, w_add, w_addL, w_addT, w_sub, w_subB, w_mul, w_mulL, w_mulT, w_mod, w_div, w_lt, w_le, w_gt, w_ge, w_is, w_isnt, w_n0, w_n1, w_n2, w_n3, w_n4, w_neg, w_atL, w_atT, w_lenL, w_lenT, w_tupL, w_tupT, w_lisL, w_lisT, w_abs, w_int, w_intB, w_gcd, w_min, w_max, w_seqL, w_seqT, w_augA, w_augS, w_augM, w_intQ, w_lstQ, w_rng1, w_rng2, w_zipL, w_zipT, w_zipM, w_zipN, w_enum, w_enumT]
        exact done _ _ _
      · rw [decide_eq_false c2]
        simp only [true_and, wpSs, wpS, wpE, wpX, wpO, wpC, wpI, ent, kt0, bindT, bindTs, tgsLen, wipeR, constD, owL, List.map_cons, List.map_nil, List.length_cons, List.length_nil, List.replicate, List.cons_append, List.nil_append, Nat.reduceSub, Nat.reduceAdd, List.getElem?_cons_zero, List.getElem?_cons_succ, List.getElem?_nil, List.set_cons_zero, List.set_cons_succ, opF, cmpF, Bi.fd, Option.map_some, if_true, if_false, Bool.true_eq_false, Bool.false_eq_true, reduceIte, Bool.not_true, Bool.not_false, w_some, w_none, w_fz0, w_fz1, w_t0, w_t1, w_t2, w_t3, w_t4, w_add, w_addL, w_addT, w_sub, w_subB, w_mul, w_mulL, w_mulT, w_mod, w_div, w_lt, w_le, w_gt, w_ge, w_is, w_isnt, w_n0, w_n1, w_n2, w_n3, w_n4, w_neg, w_atL, w_atT, w_lenL, w_lenT, w_tupL, w_tupT, w_lisL, w_lisT, w_abs, w_int, w_intB, w_gcd, w_min, w_max, w_seqL, w_seqT, w_augA, w_augS, w_augM, w_intQ, w_lstQ, w_rng1, w_rng2, w_zipL, w_zipT, w_zipM, w_zipN, w_enum, w_enumT]
        exact done _ _ _
    · rw [decide_eq_false c1]
      simp only [true_and, wpSs, wpS, wpE, wpX, wpO, wpC, wpI, ent, kt0, bindT, bindTs, tgsLen, wipeR, constD, owL, List.map_cons, List.map_nil, List.length_cons, List.length_nil, List.replicate, List.cons_append, List.nil_append, Nat.reduceSub, Nat.reduceAdd, List.getElem?_cons_zero, List.getElem?_cons_succ, List.getElem?_nil, List.set_cons_zero, List.set_cons_succ, opF, cmpF, Bi.fd, Option.map_some, if_true, if_false, Bool.true_eq_false, Bool.false_eq_true, reduceIte, Bool.not_true, Bool.not_false, w_some, w_none, w_fz0, w_fz1, w_t0, w_t1, w_t2, w_t3, w_t4, w_add, w_addL, w_addT, w_sub, w_subB, w_mul, w_mulL, w_mulT, w_mod, w_div, w_lt, w_le, w_gt, w_ge, w_is, w_isnt, w_n0, w_n1, w_n2, w_n3, w_n4, w_neg, w_atL, w_atT, w_lenL, w_lenT, w_tupL, w_tupT, w_lisL, w_lisT, w_abs, w_int, w_intB, w_gcd, w_min, w_max, w_seqL, w_seqT, w_augA, w_augS, w_augM, w_intQ, w_lstQ, w_rng1, w_rng2, w_zipL, w_zipT, w_zipM, w_zipN, w_enum, w_enumT]
      exact done _ _ _
  · obtain ⟨y12, y13, y14, rfl⟩ := hI
    exact fin _ _ _
theorem kn_map (bs : Bs) (ev : List Int) (m : Nat) : (List.range m).map (fun (x : Nat) => PyData.int (if ((blkOf bs x).all fun z => decide (ge ev z = 1)) = true then 1 else 0)) = (kn m bs ev).map PyData.int := by
  unfold kn
  rw [List.map_map]
  rfl
theorem rch_ok {all : List (List Int)} (tw : Two m all) {x : Int} (h0 : 0 ≤ x) (h1 : x < m) : ∀ n, (rch all x n).Nodup ∧ ∀ z ∈ rch all x n, 0 ≤ z ∧ z < (m : Int)
  | 0 => ⟨by simp [rch], fun z hz => by rw [List.mem_singleton.mp hz]; exact ⟨h0, h1⟩⟩
  | n + 1 => by
    have key : ∀ (al : List (List Int)) (f : List Int), (∀ b ∈ al, b ∈ all) → (f.Nodup ∧ ∀ z ∈ f, 0 ≤ z ∧ z < (m : Int)) → ((al.foldl rchB f).Nodup ∧ ∀ z ∈ al.foldl rchB f, 0 ≤ z ∧ z < (m : Int)) := by
      intro al
      induction al with
      | nil => exact fun f _ h => h
      | cons b al ih => exact fun f hb h => ih _ (fun c hc => hb c (List.mem_cons_of_mem _ hc)) (rchB_ok h.1 h.2 (tw.nd b (hb b List.mem_cons_self)) (tw.rng b (hb b List.mem_cons_self)))
    exact key all _ (fun _ h => h) (rch_ok tw h0 h1 n)
/-- what is commonly known -/
theorem seg_due (g : H39 Γ) {K : Kt} (hw : Wt9 m w) (he : Ek m ev) (hs : Tst m s) (hK : ∀ ρ, Any39 ρ → K.nx ρ) {y2 y4 y11 y12 y13 y14 y15 y16 y17 y18 y19 y20 y21 y22 : Option Sl} :
    wpSs Γ (stsDrop 8 lb39) (rowA m w s ev y2 y4 [some (.fz (rowQ (ops w s.1 ev))), some (.fz (rowQ (ops w s.2 ev))), y11, y12, y13, y14, y15, y16, y17, y18, y19, y20, y21, y22]) K := by
  have m5 := hw.m5
  have m1 := hw.m1
  have fin := fun y11 => seg_x g (K := K) hw he hs hK (y2 := y2) (y4 := y4) (y11 := y11) (y12 := y12) (y13 := y13) (y14 := y14) (y15 := y15) (y16 := y16) (y17 := y17) (y18 := y18) (y19 := y19) (y20 := y20) (y21 := y21) (y22 := y22)
  have e : stsDrop 8 lb39 = .cons (stsGet 8 lb39) (.cons (stsGet 9 lb39) (stsDrop 10 lb39)) := rfl
  rw [e]
  generalize stsDrop 10 lb39 = T at fin ⊢
  simp only [lb39, loopBody, stsGet, d_law, true_and, wpSs, wpS, wpE, wpX, wpO, wpC, wpI, ent, kt0, bindT, bindTs, tgsLen, wipeR, constD, owL, List.map_cons, List.map_nil, List.length_cons, List.length_nil, List.replicate, List.cons_append, List.nil_append, Nat.reduceSub, Nat.reduceAdd, List.getElem?_cons_zero, List.getElem?_cons_succ, List.getElem?_nil, List.set_cons_zero, List.set_cons_succ, opF, cmpF, Bi.fd, Option.map_some, if_true, if_false, Bool.true_eq_false, Bool.false_eq_true, reduceIte, Bool.not_true, Bool.not_false, w_some, w_none, w_fz0, w_fz1, w_t0, w_t1, w_t2, w_t3, w_t4, w_add, w_addL, w_addT, w_sub, w_subB, w_mul, w_mulL, w_mulT, w_mod, w_div, w_lt, w_le, w_gt, w_ge, w_is, w_isnt, w_n0, w_n1, w_n2, w_n3, w_n4, w_neg, w_atL, w_atT, w_lenL, w_lenT, w_tupL, w_tupT, w_lisL, w_lisT, w_abs, w_int, w_intB, w_gcd, w_min, w_max, w_seqL, w_seqT, w_augA, w_augS, w_augM, w_intQ, w_lstQ, w_rng1, w_rng2, w_zipL, w_zipT, w_zipM, w_zipN, w_enum, w_enumT, g.ck, g.re, g.kn]
  refine ⟨rngOk_small (by omega) (by omega), ?_⟩
  rw [Int.toNat_natCast, rangeD0]
  refine ⟨by rw [List.length_map, List.length_range]; exact small (by omega), ?_⟩
  refine foldW_map (fun (x : Nat) => PyData.int (if ((blkOf (com m (s.1 ++ s.2)) x).all fun z => decide (ge ev z = 1)) = true then 1 else 0)) (fun x acc k3 hx hk3 => ?_) ?_
  · have hx := List.mem_range.mp hx
    have rr := reach_rng hs.p1 hs.p2 (x := (x : Int)) (by omega) (by omega)
    have ra := reach_all (ev := ev) hs.p1 hs.p2 (x := (x : Int)) (by omega) (by omega)
    refine ⟨m, s.1, s.2, x, rfl, m5, hs.p1, hs.p2, by omega, by omega, ?_⟩
    have rl : (rch (s.1 ++ s.2) (x : Int) (s.1.length + s.2.length + 1)).length ≤ 1000 := by
      obtain ⟨n1, n2⟩ := rch_ok (two_of hs.p1 hs.p2) (x := (x : Int)) (by omega) (by omega) (s.1.length + s.2.length + 1)
      have := sub_len n1 n2
      omega
    generalize rch (s.1 ++ s.2) (x : Int) (s.1.length + s.2.length + 1) = l at *
    simp only [true_and, wpSs, wpS, wpE, wpX, wpO, wpC, wpI, ent, kt0, bindT, bindTs, tgsLen, wipeR, constD, owL, List.map_cons, List.map_nil, List.length_cons, List.length_nil, List.replicate, List.cons_append, List.nil_append, Nat.reduceSub, Nat.reduceAdd, List.getElem?_cons_zero, List.getElem?_cons_succ, List.getElem?_nil, List.set_cons_zero, List.set_cons_succ, opF, cmpF, Bi.fd, Option.map_some, if_true, if_false, Bool.true_eq_false, Bool.false_eq_true, reduceIte, Bool.not_true, Bool.not_false, w_some, w_none, w_fz0, w_fz1, w_t0, w_t1, w_t2, w_t3, w_t4, w_add, w_addL, w_addT, w_sub, w_subB, w_mul, w_mulL, w_mulT, w_mod, w_div, w_lt, w_le, w_gt, w_ge, w_is, w_isnt, w_n0, w_n1, w_n2, w_n3, w_n4, w_neg, w_atL, w_atT, w_lenL, w_lenT, w_tupL, w_tupT, w_lisL, w_lisT, w_abs, w_int, w_intB, w_gcd, w_min, w_max, w_seqL, w_seqT, w_augA, w_augS, w_augM, w_intQ, w_lstQ, w_rng1, w_rng2, w_zipL, w_zipT, w_zipM, w_zipN, w_enum, w_enumT, rowI]
    refine ⟨by rw [List.length_map]; exact small rl, ?_⟩
    refine foldW_filter (fun z => decide (ge ev z = 0)) (fun z => PyData.int z) (fun z acc k4 hz hk4 => ?_) ?_
    · simp only [true_and, wpSs, wpS, wpE, wpX, wpO, wpC, wpI, ent, kt0, bindT, bindTs, tgsLen, wipeR, constD, owL, List.map_cons, List.map_nil, List.length_cons, List.length_nil, List.replicate, List.cons_append, List.nil_append, Nat.reduceSub, Nat.reduceAdd, List.getElem?_cons_zero, List.getElem?_cons_succ, List.getElem?_nil, List.set_cons_zero, List.set_cons_succ, opF, cmpF, Bi.fd, Option.map_some, if_true, if_false, Bool.true_eq_false, Bool.false_eq_true, reduceIte, Bool.not_true, Bool.not_false, w_some, w_none, w_fz0, w_fz1, w_t0, w_t1, w_t2, w_t3, w_t4, w_add, w_addL, w_addT, w_sub, w_subB, w_mul, w_mulL, w_mulT, w_mod, w_div, w_lt, w_le, w_gt, w_ge, w_is, w_isnt, w_n0, w_n1, w_n2, w_n3, w_n4, w_neg, w_atL, w_atT, w_lenL, w_lenT, w_tupL, w_tupT, w_lisL, w_lisT, w_abs, w_int, w_intB, w_gcd, w_min, w_max, w_seqL, w_seqT, w_augA, w_augS, w_augM, w_intQ, w_lstQ, w_rng1, w_rng2, w_zipL, w_zipT, w_zipM, w_zipN, w_enum, w_enumT, at_ge (rr z hz).1 (show z < ev.length by have := he.len; have := rr z hz; omega)]
      exact dEqI (kif hk4)
    · refine dEq_list0 (td_shp (α := List Int) _ (by decide)) ?_
      rw [List.isEmpty_map, empty_all he rr, ra]
      cases hc : (blkOf (com m (s.1 ++ s.2)) x).all fun z => decide (ge ev z = 1) with
      | true =>
        rw [hc, if_pos rfl] at hk3
        simp only [true_and, wpSs, wpS, wpE, wpX, wpO, wpC, wpI, ent, kt0, bindT, bindTs, tgsLen, wipeR, constD, owL, List.map_cons, List.map_nil, List.length_cons, List.length_nil, List.replicate, List.cons_append, List.nil_append, Nat.reduceSub, Nat.reduceAdd, List.getElem?_cons_zero, List.getElem?_cons_succ, List.getElem?_nil, List.set_cons_zero, List.set_cons_succ, opF, cmpF, Bi.fd, Option.map_some, if_true, if_false, Bool.true_eq_false, Bool.false_eq_true, reduceIte, Bool.not_true, Bool.not_false, w_some, w_none, w_fz0, w_fz1, w_t0, w_t1, w_t2, w_t3, w_t4, w_add, w_addL, w_addT, w_sub, w_subB, w_mul, w_mulL, w_mulT, w_mod, w_div, w_lt, w_le, w_gt, w_ge, w_is, w_isnt, w_n0, w_n1, w_n2, w_n3, w_n4, w_neg, w_atL, w_atT, w_lenL, w_lenT, w_tupL, w_tupT, w_lisL, w_lisT, w_abs, w_int, w_intB, w_gcd, w_min, w_max, w_seqL, w_seqT, w_augA, w_augS, w_augM, w_intQ, w_lstQ, w_rng1, w_rng2, w_zipL, w_zipT, w_zipM, w_zipN, w_enum, w_enumT]
        exact hk3
      | false =>
        rw [hc, if_neg Bool.false_ne_true] at hk3
        simp only [true_and, wpSs, wpS, wpE, wpX, wpO, wpC, wpI, ent, kt0, bindT, bindTs, tgsLen, wipeR, constD, owL, List.map_cons, List.map_nil, List.length_cons, List.length_nil, List.replicate, List.cons_append, List.nil_append, Nat.reduceSub, Nat.reduceAdd, List.getElem?_cons_zero, List.getElem?_cons_succ, List.getElem?_nil, List.set_cons_zero, List.set_cons_succ, opF, cmpF, Bi.fd, Option.map_some, if_true, if_false, Bool.true_eq_false, Bool.false_eq_true, reduceIte, Bool.not_true, Bool.not_false, w_some, w_none, w_fz0, w_fz1, w_t0, w_t1, w_t2, w_t3, w_t4, w_add, w_addL, w_addT, w_sub, w_subB, w_mul, w_mulL, w_mulT, w_mod, w_div, w_lt, w_le, w_gt, w_ge, w_is, w_isnt, w_n0, w_n1, w_n2, w_n3, w_n4, w_neg, w_atL, w_atT, w_lenL, w_lenT, w_tupL, w_tupT, w_lisL, w_lisT, w_abs, w_int, w_intB, w_gcd, w_min, w_max, w_seqL, w_seqT, w_augA, w_augS, w_augM, w_intQ, w_lstQ, w_rng1, w_rng2, w_zipL, w_zipT, w_zipM, w_zipN, w_enum, w_enumT]
        exact hk3
  rw [kn_map]
  refine ⟨m, s.1, s.2, _, rfl, m5, he, hs.p1, hs.p2, ?_⟩
  refine dNeRow_same ?_
  simp only [true_and, wpSs, wpS, wpE, wpX, wpO, wpC, wpI, ent, kt0, bindT, bindTs, tgsLen, wipeR, constD, owL, List.map_cons, List.map_nil, List.length_cons, List.length_nil, List.replicate, List.cons_append, List.nil_append, Nat.reduceSub, Nat.reduceAdd, List.getElem?_cons_zero, List.getElem?_cons_succ, List.getElem?_nil, List.set_cons_zero, List.set_cons_succ, opF, cmpF, Bi.fd, Option.map_some, if_true, if_false, Bool.true_eq_false, Bool.false_eq_true, reduceIte, Bool.not_true, Bool.not_false, w_some, w_none, w_fz0, w_fz1, w_t0, w_t1, w_t2, w_t3, w_t4, w_add, w_addL, w_addT, w_sub, w_subB, w_mul, w_mulL, w_mulT, w_mod, w_div, w_lt, w_le, w_gt, w_ge, w_is, w_isnt, w_n0, w_n1, w_n2, w_n3, w_n4, w_neg, w_atL, w_atT, w_lenL, w_lenT, w_tupL, w_tupT, w_lisL, w_lisT, w_abs, w_int, w_intB, w_gcd, w_min, w_max, w_seqL, w_seqT, w_augA, w_augS, w_augM, w_intQ, w_lstQ, w_rng1, w_rng2, w_zipL, w_zipT, w_zipM, w_zipN, w_enum, w_enumT]
  refine ⟨rngOk_small (by omega) (by omega), ⟨by rw [List.length_map, List.length_range]; exact small (by omega), ?_⟩⟩
  refine foldW_filter (fun _ => false) (fun (x : Nat) => PyData.int x) (fun x acc k3 hx hk3 => ?_) ?_
  · have hx := List.mem_range.mp hx
    have x0 : (0 : Int) ≤ (x : Int) := by omega
    have x1 : (x : Int) < m := by omega
    obtain ⟨d1, d2⟩ := due_le (ev := ev) hs.p1 hs.p2 x0 x1
    have g0 := at_ge (l := kn m (com m (s.1 ++ s.2)) ev) x0 (by rw [kn_len]; exact x1)
    have g1 := at_ge (l := kn m s.1 ev) x0 (by rw [kn_len]; exact x1)
    have g2 := at_ge (l := kn m s.2 ev) x0 (by rw [kn_len]; exact x1)
    simp only [true_and, wpSs, wpS, wpE, wpX, wpO, wpC, wpI, ent, kt0, bindT, bindTs, tgsLen, wipeR, constD, owL, List.map_cons, List.map_nil, List.length_cons, List.length_nil, List.replicate, List.cons_append, List.nil_append, Nat.reduceSub, Nat.reduceAdd, List.getElem?_cons_zero, List.getElem?_cons_succ, List.getElem?_nil, List.set_cons_zero, List.set_cons_succ, opF, cmpF, Bi.fd, Option.map_some, if_true, if_false, Bool.true_eq_false, Bool.false_eq_true, reduceIte, Bool.not_true, Bool.not_false, w_some, w_none, w_fz0, w_fz1, w_t0, w_t1, w_t2, w_t3, w_t4, w_add, w_addL, w_addT, w_sub, w_subB, w_mul, w_mulL, w_mulT, w_mod, w_div, w_lt, w_le, w_gt, w_ge, w_is, w_isnt, w_n0, w_n1, w_n2, w_n3, w_n4, w_neg, w_atL, w_atT, w_lenL, w_lenT, w_tupL, w_tupT, w_lisL, w_lisT, w_abs, w_int, w_intB, w_gcd, w_min, w_max, w_seqL, w_seqT, w_augA, w_augS, w_augM, w_intQ, w_lstQ, w_rng1, w_rng2, w_zipL, w_zipT, w_zipM, w_zipN, w_enum, w_enumT, g0]
    refine ⟨m, s.1, ev, rfl, m5, he, hs.p1, ?_⟩
    simp only [true_and, wpSs, wpS, wpE, wpX, wpO, wpC, wpI, ent, kt0, bindT, bindTs, tgsLen, wipeR, constD, owL, List.map_cons, List.map_nil, List.length_cons, List.length_nil, List.replicate, List.cons_append, List.nil_append, Nat.reduceSub, Nat.reduceAdd, List.getElem?_cons_zero, List.getElem?_cons_succ, List.getElem?_nil, List.set_cons_zero, List.set_cons_succ, opF, cmpF, Bi.fd, Option.map_some, if_true, if_false, Bool.true_eq_false, Bool.false_eq_true, reduceIte, Bool.not_true, Bool.not_false, w_some, w_none, w_fz0, w_fz1, w_t0, w_t1, w_t2, w_t3, w_t4, w_add, w_addL, w_addT, w_sub, w_subB, w_mul, w_mulL, w_mulT, w_mod, w_div, w_lt, w_le, w_gt, w_ge, w_is, w_isnt, w_n0, w_n1, w_n2, w_n3, w_n4, w_neg, w_atL, w_atT, w_lenL, w_lenT, w_tupL, w_tupT, w_lisL, w_lisT, w_abs, w_int, w_intB, w_gcd, w_min, w_max, w_seqL, w_seqT, w_augA, w_augS, w_augM, w_intQ, w_lstQ, w_rng1, w_rng2, w_zipL, w_zipT, w_zipM, w_zipN, w_enum, w_enumT, rowI, g1]
    refine ⟨m, s.2, ev, rfl, m5, he, hs.p2, ?_⟩
    simp only [true_and, wpSs, wpS, wpE, wpX, wpO, wpC, wpI, ent, kt0, bindT, bindTs, tgsLen, wipeR, constD, owL, List.map_cons, List.map_nil, List.length_cons, List.length_nil, List.replicate, List.cons_append, List.nil_append, Nat.reduceSub, Nat.reduceAdd, List.getElem?_cons_zero, List.getElem?_cons_succ, List.getElem?_nil, List.set_cons_zero, List.set_cons_succ, opF, cmpF, Bi.fd, Option.map_some, if_true, if_false, Bool.true_eq_false, Bool.false_eq_true, reduceIte, Bool.not_true, Bool.not_false, w_some, w_none, w_fz0, w_fz1, w_t0, w_t1, w_t2, w_t3, w_t4, w_add, w_addL, w_addT, w_sub, w_subB, w_mul, w_mulL, w_mulT, w_mod, w_div, w_lt, w_le, w_gt, w_ge, w_is, w_isnt, w_n0, w_n1, w_n2, w_n3, w_n4, w_neg, w_atL, w_atT, w_lenL, w_lenT, w_tupL, w_tupT, w_lisL, w_lisT, w_abs, w_int, w_intB, w_gcd, w_min, w_max, w_seqL, w_seqT, w_augA, w_augS, w_augM, w_intQ, w_lstQ, w_rng1, w_rng2, w_zipL, w_zipT, w_zipM, w_zipN, w_enum, w_enumT, rowI, g2]
    rw [decide_eq_false (by split <;> omega)]
    simp only [true_and, wpSs, wpS, wpE, wpX, wpO, wpC, wpI, ent, kt0, bindT, bindTs, tgsLen, wipeR, constD, owL, List.map_cons, List.map_nil, List.length_cons, List.length_nil, List.replicate, List.cons_append, List.nil_append, Nat.reduceSub, Nat.reduceAdd, List.getElem?_cons_zero, List.getElem?_cons_succ, List.getElem?_nil, List.set_cons_zero, List.set_cons_succ, opF, cmpF, Bi.fd, Option.map_some, if_true, if_false, Bool.true_eq_false, Bool.false_eq_true, reduceIte, Bool.not_true, Bool.not_false, w_some, w_none, w_fz0, w_fz1, w_t0, w_t1, w_t2, w_t3, w_t4, w_add, w_addL, w_addT, w_sub, w_subB, w_mul, w_mulL, w_mulT, w_mod, w_div, w_lt, w_le, w_gt, w_ge, w_is, w_isnt, w_n0, w_n1, w_n2, w_n3, w_n4, w_neg, w_atL, w_atT, w_lenL, w_lenT, w_tupL, w_tupT, w_lisL, w_lisT, w_abs, w_int, w_intB, w_gcd, w_min, w_max, w_seqL, w_seqT, w_augA, w_augS, w_augM, w_intQ, w_lstQ, w_rng1, w_rng2, w_zipL, w_zipT, w_zipM, w_zipN, w_enum, w_enumT]
    exact hk3
  · rw [List.filter_eq_nil_iff.mpr fun _ _ => Bool.false_ne_true, List.map_nil]
    refine dNe_nil ?_
    simp only [true_and, wpSs, wpS, wpE, wpX, wpO, wpC, wpI, ent, kt0, bindT, bindTs, tgsLen, wipeR, constD, owL, List.map_cons, List.map_nil, List.length_cons, List.length_nil, List.replicate, List.cons_append, List.nil_append, Nat.reduceSub, Nat.reduceAdd, List.getElem?_cons_zero, List.getElem?_cons_succ, List.getElem?_nil, List.set_cons_zero, List.set_cons_succ, opF, cmpF, Bi.fd, Option.map_some, if_true, if_false, Bool.true_eq_false, Bool.false_eq_true, reduceIte, Bool.not_true, Bool.not_false, w_some, w_none, w_fz0, w_fz1, w_t0, w_t1, w_t2, w_t3, w_t4, w_add, w_addL, w_addT, w_sub, w_subB, w_mul, w_mulL, w_mulT, w_mod, w_div, w_lt, w_le, w_gt, w_ge, w_is, w_isnt, w_n0, w_n1, w_n2, w_n3, w_n4, w_neg, w_atL, w_atT, w_lenL, w_lenT, w_tupL, w_tupT, w_lisL, w_lisT, w_abs, w_int, w_intB, w_gcd, w_min, w_max, w_seqL, w_seqT, w_augA, w_augS, w_augM, w_intQ, w_lstQ, w_rng1, w_rng2, w_zipL, w_zipT, w_zipM, w_zipN, w_enum, w_enumT]
    exact fin _
/-- opinions, knows -/
theorem seg_ops (g : H39 Γ) {K : Kt} (hw : Wt9 m w) (he : Ek m ev) (hs : Tst m s) (hK : ∀ ρ, Any39 ρ → K.nx ρ) {y2 y4 y9 y10 y11 y12 y13 y14 y15 y16 y17 y18 y19 y20 y21 y22 : Option Sl} :
    wpSs Γ (stsDrop 5 lb39) (rowA m w s ev y2 y4 [y9, y10, y11, y12, y13, y14, y15, y16, y17, y18, y19, y20, y21, y22]) K := by
  have m5 := hw.m5
  have m1 := hw.m1
  have fin := seg_due g (K := K) hw he hs hK (y2 := y2) (y4 := y4) (y11 := y11) (y12 := y12) (y13 := y13) (y14 := y14) (y15 := y15) (y16 := y16) (y17 := y17) (y18 := y18) (y19 := y19) (y20 := y20) (y21 := y21) (y22 := y22)
  have e : stsDrop 5 lb39 = .cons (stsGet 5 lb39) (.cons (stsGet 6 lb39) (.cons (stsGet 7 lb39) (stsDrop 8 lb39))) := rfl
  rw [e]
  generalize stsDrop 8 lb39 = T at fin ⊢
  simp only [lb39, loopBody, stsGet, d_law, true_and, wpSs, wpS, wpE, wpX, wpO, wpC, wpI, ent, kt0, bindT, bindTs, tgsLen, wipeR, constD, owL, List.map_cons, List.map_nil, List.length_cons, List.length_nil, List.replicate, List.cons_append, List.nil_append, Nat.reduceSub, Nat.reduceAdd, List.getElem?_cons_zero, List.getElem?_cons_succ, List.getElem?_nil, List.set_cons_zero, List.set_cons_succ, opF, cmpF, Bi.fd, Option.map_some, if_true, if_false, Bool.true_eq_false, Bool.false_eq_true, reduceIte, Bool.not_true, Bool.not_false, w_some, w_none, w_fz0, w_fz1, w_t0, w_t1, w_t2, w_t3, w_t4, w_add, w_addL, w_addT, w_sub, w_subB, w_mul, w_mulL, w_mulT, w_mod, w_div, w_lt, w_le, w_gt, w_ge, w_is, w_isnt, w_n0, w_n1, w_n2, w_n3, w_n4, w_neg, w_atL, w_atT, w_lenL, w_lenT, w_tupL, w_tupT, w_lisL, w_lisT, w_abs, w_int, w_intB, w_gcd, w_min, w_max, w_seqL, w_seqT, w_augA, w_augS, w_augM, w_intQ, w_lstQ, w_rng1, w_rng2, w_zipL, w_zipT, w_zipM, w_zipN, w_enum, w_enumT, g.lop, g.op, g.o1, g.kn, g.ofb]
  have l2 : (ops w s.2 ev).length = m := by rw [ops_len, hw.len]
  refine ⟨m, w, s.1, ev, rfl, hw, he, hs.p1, ?_⟩
  refine ⟨m, w, s.2, ev, rfl, hw, he, hs.p2, ?_⟩
  simp only [true_and, wpSs, wpS, wpE, wpX, wpO, wpC, wpI, ent, kt0, bindT, bindTs, tgsLen, wipeR, constD, owL, List.map_cons, List.map_nil, List.length_cons, List.length_nil, List.replicate, List.cons_append, List.nil_append, Nat.reduceSub, Nat.reduceAdd, List.getElem?_cons_zero, List.getElem?_cons_succ, List.getElem?_nil, List.set_cons_zero, List.set_cons_succ, opF, cmpF, Bi.fd, Option.map_some, if_true, if_false, Bool.true_eq_false, Bool.false_eq_true, reduceIte, Bool.not_true, Bool.not_false, w_some, w_none, w_fz0, w_fz1, w_t0, w_t1, w_t2, w_t3, w_t4, w_add, w_addL, w_addT, w_sub, w_subB, w_mul, w_mulL, w_mulT, w_mod, w_div, w_lt, w_le, w_gt, w_ge, w_is, w_isnt, w_n0, w_n1, w_n2, w_n3, w_n4, w_neg, w_atL, w_atT, w_lenL, w_lenT, w_tupL, w_tupT, w_lisL, w_lisT, w_abs, w_int, w_intB, w_gcd, w_min, w_max, w_seqL, w_seqT, w_augA, w_augS, w_augM, w_intQ, w_lstQ, w_rng1, w_rng2, w_zipL, w_zipT, w_zipM, w_zipN, w_enum, w_enumT]
  refine ⟨m, w, s.1, ev, rfl, hw, he, hs.p1, ?_⟩
  refine dNeRowQ_same ?_
  simp only [true_and, wpSs, wpS, wpE, wpX, wpO, wpC, wpI, ent, kt0, bindT, bindTs, tgsLen, wipeR, constD, owL, List.map_cons, List.map_nil, List.length_cons, List.length_nil, List.replicate, List.cons_append, List.nil_append, Nat.reduceSub, Nat.reduceAdd, List.getElem?_cons_zero, List.getElem?_cons_succ, List.getElem?_nil, List.set_cons_zero, List.set_cons_succ, opF, cmpF, Bi.fd, Option.map_some, if_true, if_false, Bool.true_eq_false, Bool.false_eq_true, reduceIte, Bool.not_true, Bool.not_false, w_some, w_none, w_fz0, w_fz1, w_t0, w_t1, w_t2, w_t3, w_t4, w_add, w_addL, w_addT, w_sub, w_subB, w_mul, w_mulL, w_mulT, w_mod, w_div, w_lt, w_le, w_gt, w_ge, w_is, w_isnt, w_n0, w_n1, w_n2, w_n3, w_n4, w_neg, w_atL, w_atT, w_lenL, w_lenT, w_tupL, w_tupT, w_lisL, w_lisT, w_abs, w_int, w_intB, w_gcd, w_min, w_max, w_seqL, w_seqT, w_augA, w_augS, w_augM, w_intQ, w_lstQ, w_rng1, w_rng2, w_zipL, w_zipT, w_zipM, w_zipN, w_enum, w_enumT]
  refine ⟨rngOk_small (by omega) (by omega), ?_⟩
  rw [Int.toNat_natCast, rangeD0]
  refine ⟨by rw [List.length_map, List.length_range]; exact small (by omega), ?_⟩
  refine foldW_filter (fun _ => false) (fun (x : Nat) => PyData.int x) (fun x acc k3 hx hk3 => ?_) ?_
  · have hx := List.mem_range.mp hx
    have x0 : (0 : Int) ≤ (x : Int) := by omega
    have x1 : (x : Int) < m := by omega
    have a2 := at_gw (l := ops w s.2 ev) x0 (by omega)
    rw [ops_at hw.len x0 x1] at a2
    refine ⟨m, w, s.2, ev, x, rfl, hw, he, hs.p2, x0, x1, ?_⟩
    simp only [true_and, wpSs, wpS, wpE, wpX, wpO, wpC, wpI, ent, kt0, bindT, bindTs, tgsLen, wipeR, constD, owL, List.map_cons, List.map_nil, List.length_cons, List.length_nil, List.replicate, List.cons_append, List.nil_append, Nat.reduceSub, Nat.reduceAdd, List.getElem?_cons_zero, List.getElem?_cons_succ, List.getElem?_nil, List.set_cons_zero, List.set_cons_succ, opF, cmpF, Bi.fd, Option.map_some, if_true, if_false, Bool.true_eq_false, Bool.false_eq_true, reduceIte, Bool.not_true, Bool.not_false, w_some, w_none, w_fz0, w_fz1, w_t0, w_t1, w_t2, w_t3, w_t4, w_add, w_addL, w_addT, w_sub, w_subB, w_mul, w_mulL, w_mulT, w_mod, w_div, w_lt, w_le, w_gt, w_ge, w_is, w_isnt, w_n0, w_n1, w_n2, w_n3, w_n4, w_neg, w_atL, w_atT, w_lenL, w_lenT, w_tupL, w_tupT, w_lisL, w_lisT, w_abs, w_int, w_intB, w_gcd, w_min, w_max, w_seqL, w_seqT, w_augA, w_augS, w_augM, w_intQ, w_lstQ, w_rng1, w_rng2, w_zipL, w_zipT, w_zipM, w_zipN, w_enum, w_enumT, rowQ, a2]
    refine dNeQ ?_
    rw [decide_eq_true rfl]
    simp only [true_and, wpSs, wpS, wpE, wpX, wpO, wpC, wpI, ent, kt0, bindT, bindTs, tgsLen, wipeR, constD, owL, List.map_cons, List.map_nil, List.length_cons, List.length_nil, List.replicate, List.cons_append, List.nil_append, Nat.reduceSub, Nat.reduceAdd, List.getElem?_cons_zero, List.getElem?_cons_succ, List.getElem?_nil, List.set_cons_zero, List.set_cons_succ, opF, cmpF, Bi.fd, Option.map_some, if_true, if_false, Bool.true_eq_false, Bool.false_eq_true, reduceIte, Bool.not_true, Bool.not_false, w_some, w_none, w_fz0, w_fz1, w_t0, w_t1, w_t2, w_t3, w_t4, w_add, w_addL, w_addT, w_sub, w_subB, w_mul, w_mulL, w_mulT, w_mod, w_div, w_lt, w_le, w_gt, w_ge, w_is, w_isnt, w_n0, w_n1, w_n2, w_n3, w_n4, w_neg, w_atL, w_atT, w_lenL, w_lenT, w_tupL, w_tupT, w_lisL, w_lisT, w_abs, w_int, w_intB, w_gcd, w_min, w_max, w_seqL, w_seqT, w_augA, w_augS, w_augM, w_intQ, w_lstQ, w_rng1, w_rng2, w_zipL, w_zipT, w_zipM, w_zipN, w_enum, w_enumT]
    exact hk3
  · rw [List.filter_eq_nil_iff.mpr fun _ _ => Bool.false_ne_true, List.map_nil]
    refine dNe_nil ?_
    simp only [true_and, wpSs, wpS, wpE, wpX, wpO, wpC, wpI, ent, kt0, bindT, bindTs, tgsLen, wipeR, constD, owL, List.map_cons, List.map_nil, List.length_cons, List.length_nil, List.replicate, List.cons_append, List.nil_append, Nat.reduceSub, Nat.reduceAdd, List.getElem?_cons_zero, List.getElem?_cons_succ, List.getElem?_nil, List.set_cons_zero, List.set_cons_succ, opF, cmpF, Bi.fd, Option.map_some, if_true, if_false, Bool.true_eq_false, Bool.false_eq_true, reduceIte, Bool.not_true, Bool.not_false, w_some, w_none, w_fz0, w_fz1, w_t0, w_t1, w_t2, w_t3, w_t4, w_add, w_addL, w_addT, w_sub, w_subB, w_mul, w_mulL, w_mulT, w_mod, w_div, w_lt, w_le, w_gt, w_ge, w_is, w_isnt, w_n0, w_n1, w_n2, w_n3, w_n4, w_neg, w_atL, w_atT, w_lenL, w_lenT, w_tupL, w_tupT, w_lisL, w_lisT, w_abs, w_int, w_intB, w_gcd, w_min, w_max, w_seqL, w_seqT, w_augA, w_augS, w_augM, w_intQ, w_lstQ, w_rng1, w_rng2, w_zipL, w_zipT, w_zipM, w_zipN, w_enum, w_enumT]
    refine ⟨m, s.1, ev, rfl, m5, he, hs.p1, ?_⟩
    refine ⟨rngOk_small (by omega) (by omega), ?_⟩
    refine ⟨by rw [List.length_map, List.length_range]; exact small (by omega), ?_⟩
    refine foldW_map (fun (x : Nat) => PyData.int (if ((blkOf s.1 x).all fun z => decide (ge ev z = 1)) = true then 1 else 0)) (fun x acc k3 hx hk3 => ?_) ?_
    · have hx := List.mem_range.mp hx
      obtain ⟨hb, _⟩ := hs.p1.blk (x := (x : Int)) (by omega) (by omega)
      have rr := hs.p1.rng _ hb
      have rl := hs.p1.blen hb
      refine ⟨m, s.1, x, rfl, hs.p1, m5, by omega, by omega, ?_⟩
      generalize blkOf s.1 x = l at *
      simp only [true_and, wpSs, wpS, wpE, wpX, wpO, wpC, wpI, ent, kt0, bindT, bindTs, tgsLen, wipeR, constD, owL, List.map_cons, List.map_nil, List.length_cons, List.length_nil, List.replicate, List.cons_append, List.nil_append, Nat.reduceSub, Nat.reduceAdd, List.getElem?_cons_zero, List.getElem?_cons_succ, List.getElem?_nil, List.set_cons_zero, List.set_cons_succ, opF, cmpF, Bi.fd, Option.map_some, if_true, if_false, Bool.true_eq_false, Bool.false_eq_true, reduceIte, Bool.not_true, Bool.not_false, w_some, w_none, w_fz0, w_fz1, w_t0, w_t1, w_t2, w_t3, w_t4, w_add, w_addL, w_addT, w_sub, w_subB, w_mul, w_mulL, w_mulT, w_mod, w_div, w_lt, w_le, w_gt, w_ge, w_is, w_isnt, w_n0, w_n1, w_n2, w_n3, w_n4, w_neg, w_atL, w_atT, w_lenL, w_lenT, w_tupL, w_tupT, w_lisL, w_lisT, w_abs, w_int, w_intB, w_gcd, w_min, w_max, w_seqL, w_seqT, w_augA, w_augS, w_augM, w_intQ, w_lstQ, w_rng1, w_rng2, w_zipL, w_zipT, w_zipM, w_zipN, w_enum, w_enumT, rowI]
      refine ⟨by rw [List.length_map]; exact small (by omega), ?_⟩
      refine foldW_filter (fun z => decide (ge ev z = 0)) (fun z => PyData.int z) (fun z acc k4 hz hk4 => ?_) ?_
      · simp only [true_and, wpSs, wpS, wpE, wpX, wpO, wpC, wpI, ent, kt0, bindT, bindTs, tgsLen, wipeR, constD, owL, List.map_cons, List.map_nil, List.length_cons, List.length_nil, List.replicate, List.cons_append, List.nil_append, Nat.reduceSub, Nat.reduceAdd, List.getElem?_cons_zero, List.getElem?_cons_succ, List.getElem?_nil, List.set_cons_zero, List.set_cons_succ, opF, cmpF, Bi.fd, Option.map_some, if_true, if_false, Bool.true_eq_false, Bool.false_eq_true, reduceIte, Bool.not_true, Bool.not_false, w_some, w_none, w_fz0, w_fz1, w_t0, w_t1, w_t2, w_t3, w_t4, w_add, w_addL, w_addT, w_sub, w_subB, w_mul, w_mulL, w_mulT, w_mod, w_div, w_lt, w_le, w_gt, w_ge, w_is, w_isnt, w_n0, w_n1, w_n2, w_n3, w_n4, w_neg, w_atL, w_atT, w_lenL, w_lenT, w_tupL, w_tupT, w_lisL, w_lisT, w_abs, w_int, w_intB, w_gcd, w_min, w_max, w_seqL, w_seqT, w_augA, w_augS, w_augM, w_intQ, w_lstQ, w_rng1, w_rng2, w_zipL, w_zipT, w_zipM, w_zipN, w_enum, w_enumT, at_ge (rr z hz).1 (show z < ev.length by have := he.len; have := rr z hz; omega)]
        exact dEqI (kif hk4)
      · refine dEq_list0 (td_shp (α := List Int) _ (by decide)) ?_
        rw [List.isEmpty_map, empty_all he rr]
        cases hc : l.all fun z => decide (ge ev z = 1) with
        | true =>
          rw [hc, if_pos rfl] at hk3
          simp only [true_and, wpSs, wpS, wpE, wpX, wpO, wpC, wpI, ent, kt0, bindT, bindTs, tgsLen, wipeR, constD, owL, List.map_cons, List.map_nil, List.length_cons, List.length_nil, List.replicate, List.cons_append, List.nil_append, Nat.reduceSub, Nat.reduceAdd, List.getElem?_cons_zero, List.getElem?_cons_succ, List.getElem?_nil, List.set_cons_zero, List.set_cons_succ, opF, cmpF, Bi.fd, Option.map_some, if_true, if_false, Bool.true_eq_false, Bool.false_eq_true, reduceIte, Bool.not_true, Bool.not_false, w_some, w_none, w_fz0, w_fz1, w_t0, w_t1, w_t2, w_t3, w_t4, w_add, w_addL, w_addT, w_sub, w_subB, w_mul, w_mulL, w_mulT, w_mod, w_div, w_lt, w_le, w_gt, w_ge, w_is, w_isnt, w_n0, w_n1, w_n2, w_n3, w_n4, w_neg, w_atL, w_atT, w_lenL, w_lenT, w_tupL, w_tupT, w_lisL, w_lisT, w_abs, w_int, w_intB, w_gcd, w_min, w_max, w_seqL, w_seqT, w_augA, w_augS, w_augM, w_intQ, w_lstQ, w_rng1, w_rng2, w_zipL, w_zipT, w_zipM, w_zipN, w_enum, w_enumT]
          exact hk3
        | false =>
          rw [hc, if_neg Bool.false_ne_true] at hk3
          simp only [true_and, wpSs, wpS, wpE, wpX, wpO, wpC, wpI, ent, kt0, bindT, bindTs, tgsLen, wipeR, constD, owL, List.map_cons, List.map_nil, List.length_cons, List.length_nil, List.replicate, List.cons_append, List.nil_append, Nat.reduceSub, Nat.reduceAdd, List.getElem?_cons_zero, List.getElem?_cons_succ, List.getElem?_nil, List.set_cons_zero, List.set_cons_succ, opF, cmpF, Bi.fd, Option.map_some, if_true, if_false, Bool.true_eq_false, Bool.false_eq_true, reduceIte, Bool.not_true, Bool.not_false, w_some, w_none, w_fz0, w_fz1, w_t0, w_t1, w_t2, w_t3, w_t4, w_add, w_addL, w_addT, w_sub, w_subB, w_mul, w_mulL, w_mulT, w_mod, w_div, w_lt, w_le, w_gt, w_ge, w_is, w_isnt, w_n0, w_n1, w_n2, w_n3, w_n4, w_neg, w_atL, w_atT, w_lenL, w_lenT, w_tupL, w_tupT, w_lisL, w_lisT, w_abs, w_int, w_intB, w_gcd, w_min, w_max, w_seqL, w_seqT, w_augA, w_augS, w_augM, w_intQ, w_lstQ, w_rng1, w_rng2, w_zipL, w_zipT, w_zipM, w_zipN, w_enum, w_enumT]
          exact hk3
    · rw [kn_map]
      refine dNeRow_same ?_
      simp only [true_and, wpSs, wpS, wpE, wpX, wpO, wpC, wpI, ent, kt0, bindT, bindTs, tgsLen, wipeR, constD, owL, List.map_cons, List.map_nil, List.length_cons, List.length_nil, List.replicate, List.cons_append, List.nil_append, Nat.reduceSub, Nat.reduceAdd, List.getElem?_cons_zero, List.getElem?_cons_succ, List.getElem?_nil, List.set_cons_zero, List.set_cons_succ, opF, cmpF, Bi.fd, Option.map_some, if_true, if_false, Bool.true_eq_false, Bool.false_eq_true, reduceIte, Bool.not_true, Bool.not_false, w_some, w_none, w_fz0, w_fz1, w_t0, w_t1, w_t2, w_t3, w_t4, w_add, w_addL, w_addT, w_sub, w_subB, w_mul, w_mulL, w_mulT, w_mod, w_div, w_lt, w_le, w_gt, w_ge, w_is, w_isnt, w_n0, w_n1, w_n2, w_n3, w_n4, w_neg, w_atL, w_atT, w_lenL, w_lenT, w_tupL, w_tupT, w_lisL, w_lisT, w_abs, w_int, w_intB, w_gcd, w_min, w_max, w_seqL, w_seqT, w_augA, w_augS, w_augM, w_intQ, w_lstQ, w_rng1, w_rng2, w_zipL, w_zipT, w_zipM, w_zipN, w_enum, w_enumT]
      exact fin
/-- one turn -/
theorem seg_turn (g : H39 Γ) {K : Kt} (hK : ∀ ρ, Any39 ρ → K.nx ρ) {ρ : Rho} (hρ : Any39 ρ) : wpSs Γ lb39 ρ K := by
  obtain ⟨y2, y3, y4, y5, y6, y7, y8, y9, y10, y11, y12, y13, y14, y15, y16, y17, y18, y19, y20, y21, y22, rfl⟩ := hρ
  have fin := fun m w s ev hw he hs y4 => seg_ops g (K := K) (m := m) (w := w) (s := s) (ev := ev) hw he hs hK (y2 := y2) (y4 := y4) (y9 := y9) (y10 := y10) (y11 := y11) (y12 := y12) (y13 := y13) (y14 := y14) (y15 := y15) (y16 := y16) (y17 := y17) (y18 := y18) (y19 := y19) (y20 := y20) (y21 := y21) (y22 := y22)
  have e : lb39 = .cons (stsGet 0 lb39) (.cons (stsGet 1 lb39) (.cons (stsGet 2 lb39) (.cons (stsGet 3 lb39) (.cons (stsGet 4 lb39) (stsDrop 5 lb39))))) := rfl
  rw [e]
  generalize stsDrop 5 lb39 = T at fin ⊢
  simp only [lb39, loopBody, stsGet, d_law, true_and, wpSs, wpS, wpE, wpX, wpO, wpC, wpI, ent, kt0, bindT, bindTs, tgsLen, wipeR, constD, owL, List.map_cons, List.map_nil, List.length_cons, List.length_nil, List.replicate, List.cons_append, List.nil_append, Nat.reduceSub, Nat.reduceAdd, List.getElem?_cons_zero, List.getElem?_cons_succ, List.getElem?_nil, List.set_cons_zero, List.set_cons_succ, opF, cmpF, Bi.fd, Option.map_some, if_true, if_false, Bool.true_eq_false, Bool.false_eq_true, reduceIte, Bool.not_true, Bool.not_false, w_some, w_none, w_fz0, w_fz1, w_t0, w_t1, w_t2, w_t3, w_t4, w_add, w_addL, w_addT, w_sub, w_subB, w_mul, w_mulL, w_mulT, w_mod, w_div, w_lt, w_le, w_gt, w_ge, w_is, w_isnt, w_n0, w_n1, w_n2, w_n3, w_n4, w_neg, w_atL, w_atT, w_lenL, w_lenT, w_tupL, w_tupT, w_lisL, w_lisT, w_abs, w_int, w_intB, w_gcd, w_min, w_max, w_seqL, w_seqT, w_augA, w_augS, w_augM, w_intQ, w_lstQ, w_rng1, w_rng2, w_zipL, w_zipT, w_zipM, w_zipN, w_enum, w_enumT, g.tk, g.lo, g.bl]
  refine ⟨5, rfl, by decide, by decide, fun z z0 z1 => ?_⟩
  obtain ⟨m, hm⟩ : ∃ m : Nat, 1 + z = (m : Int) := ⟨(1 + z).toNat, by omega⟩
  simp only [true_and, wpSs, wpS, wpE, wpX, wpO, wpC, wpI, ent, kt0, bindT, bindTs, tgsLen, wipeR, constD, owL, List.map_cons, List.map_nil, List.length_cons, List.length_nil, List.replicate, List.cons_append, List.nil_append, Nat.reduceSub, Nat.reduceAdd, List.getElem?_cons_zero, List.getElem?_cons_succ, List.getElem?_nil, List.set_cons_zero, List.set_cons_succ, opF, cmpF, Bi.fd, Option.map_some, if_true, if_false, Bool.true_eq_false, Bool.false_eq_true, reduceIte, Bool.not_true, Bool.not_false, w_some, w_none, w_fz0, w_fz1, w_t0, w_t1, w_t2, w_t3, w_t4, w_add, w_addL, w_addT, w_sub, w_subB, w_mul, w_mulL, w_mulT, w_mod, w_div, w_lt, w_le, w_gt, w_ge, w_is, w_isnt, w_n0, w_n1, w_n2, w_n3, w_n4, w_neg, w_atL, w_atT, w_lenL, w_lenT, w_tupL, w_tupT, w_lisL, w_lisT, w_abs, w_int, w_intB, w_gcd, w_min, w_max, w_seqL, w_seqT, w_augA, w_augS, w_augM, w_intQ, w_lstQ, w_rng1, w_rng2, w_zipL, w_zipT, w_zipM, w_zipN, w_enum, w_enumT, hm]
  refine ⟨rngOk_small (by omega) (by omega), ?_⟩
  rw [Int.toNat_natCast, rangeD0]
  refine ⟨by rw [List.length_map, List.length_range]; exact small (by omega), ?_⟩
  refine foldW_any (R := fun _ y => ∃ i : Int, y = PyData.int i ∧ (1 ≤ i ∧ i ≤ 4)) (fun k acc kk hk hkk => ?_) (fun ys hys => ?_)
  · refine ⟨4, rfl, by decide, by decide, fun u u0 u1 => ?_⟩
    simp only [true_and, wpSs, wpS, wpE, wpX, wpO, wpC, wpI, ent, kt0, bindT, bindTs, tgsLen, wipeR, constD, owL, List.map_cons, List.map_nil, List.length_cons, List.length_nil, List.replicate, List.cons_append, List.nil_append, Nat.reduceSub, Nat.reduceAdd, List.getElem?_cons_zero, List.getElem?_cons_succ, List.getElem?_nil, List.set_cons_zero, List.set_cons_succ, opF, cmpF, Bi.fd, Option.map_some, if_true, if_false, Bool.true_eq_false, Bool.false_eq_true, reduceIte, Bool.not_true, Bool.not_false, w_some, w_none, w_fz0, w_fz1, w_t0, w_t1, w_t2, w_t3, w_t4, w_add, w_addL, w_addT, w_sub, w_subB, w_mul, w_mulL, w_mulT, w_mod, w_div, w_lt, w_le, w_gt, w_ge, w_is, w_isnt, w_n0, w_n1, w_n2, w_n3, w_n4, w_neg, w_atL, w_atT, w_lenL, w_lenT, w_tupL, w_tupT, w_lisL, w_lisT, w_abs, w_int, w_intB, w_gcd, w_min, w_max, w_seqL, w_seqT, w_augA, w_augS, w_augM, w_intQ, w_lstQ, w_rng1, w_rng2, w_zipL, w_zipT, w_zipM, w_zipN, w_enum, w_enumT]
    exact hkk _ ⟨1 + u, rfl, by omega, by omega⟩
  obtain ⟨ps, rfl, hl, hp⟩ := paired_ints hys
  rw [List.length_range] at hl
  have s1 := sum_le_mul (B := 4) fun p hp' => (hp p hp').2
  have s0 : (m : Int) ≤ ps.sum := by
    have : ∀ l : List Int, (∀ p ∈ l, 1 ≤ p) → (l.length : Int) ≤ l.sum := fun l => by
      induction l with
      | nil => exact fun _ => by simp
      | cons p l ih =>
        intro h
        have h1 := h p List.mem_cons_self
        have h2 := ih fun q hq => h q (List.mem_cons_of_mem _ hq)
        rw [List.sum_cons, List.length_cons]
        omega
    have := this ps fun p h => (hp p h).1
    omega
  have sp : 0 < ps.sum := by omega
  have sb : ps.sum ≤ 20 := by rw [hl] at s1; omega
  generalize hS : ps.sum = S at *
  refine ⟨by rw [List.length_map]; exact small (by omega), ?_⟩
  refine foldW_map (fun p => qD (Rat.divInt p S)) (fun p acc kk hp' hkk => ?_) ?_
  · have := hp p hp'
    simp only [true_and, wpSs, wpS, wpE, wpX, wpO, wpC, wpI, ent, kt0, bindT, bindTs, tgsLen, wipeR, constD, owL, List.map_cons, List.map_nil, List.length_cons, List.length_nil, List.replicate, List.cons_append, List.nil_append, Nat.reduceSub, Nat.reduceAdd, List.getElem?_cons_zero, List.getElem?_cons_succ, List.getElem?_nil, List.set_cons_zero, List.set_cons_succ, opF, cmpF, Bi.fd, Option.map_some, if_true, if_false, Bool.true_eq_false, Bool.false_eq_true, reduceIte, Bool.not_true, Bool.not_false, w_some, w_none, w_fz0, w_fz1, w_t0, w_t1, w_t2, w_t3, w_t4, w_add, w_addL, w_addT, w_sub, w_subB, w_mul, w_mulL, w_mulT, w_mod, w_div, w_lt, w_le, w_gt, w_ge, w_is, w_isnt, w_n0, w_n1, w_n2, w_n3, w_n4, w_neg, w_atL, w_atT, w_lenL, w_lenT, w_tupL, w_tupT, w_lisL, w_lisT, w_abs, w_int, w_intB, w_gcd, w_min, w_max, w_seqL, w_seqT, w_augA, w_augS, w_augM, w_intQ, w_lstQ, w_rng1, w_rng2, w_zipL, w_zipT, w_zipM, w_zipN, w_enum, w_enumT, dSum, intsOf_map, w_some, hS]
    exact ⟨p, S, 5, 5, rfl, sp, bd5 (by omega) (by omega), bd5 (by omega) (by omega), by decide, by decide, hkk⟩
  have hw : Wt9 m (ps.map fun p => Rat.divInt p S) := by
    refine ⟨by omega, by omega, by rw [List.length_map]; exact hl, fun x hx => ?_, fun i h0 h1 => ?_⟩
    · obtain ⟨p, hp', rfl⟩ := List.mem_map.mp hx
      have := hp p hp'
      exact Sz.divInt (bd5 (by omega) (by omega)) (bd5 (by omega) (by omega)) (by omega) (Nat.le_refl _) (Nat.le_refl _)
    · have hm : gw (ps.map fun p => Rat.divInt p S) i ∈ ps.map fun p => Rat.divInt p S := getD_mem 0 (by rw [List.length_map]; omega)
      obtain ⟨p, hp', e⟩ := List.mem_map.mp hm
      rw [← e]
      have := hp p hp'
      have := (divInt_lt_iff (a := 0) (b := 1) (c := p) (d := S) (by decide) sp).mpr (by omega)
      rwa [Rat.zero_divInt] at this
  have ew : ps.map (fun p => qD (Rat.divInt p S)) = (ps.map fun p => Rat.divInt p S).map qD := by rw [List.map_map]; rfl
  rw [ew]
  generalize (ps.map fun p => Rat.divInt p S) = w at *
  refine ⟨m, rfl, by omega, by omega, fun a pa sa => ?_⟩
  refine ⟨m, rfl, by omega, by omega, fun b pb sb => ?_⟩
  simp only [true_and, wpSs, wpS, wpE, wpX, wpO, wpC, wpI, ent, kt0, bindT, bindTs, tgsLen, wipeR, constD, owL, List.map_cons, List.map_nil, List.length_cons, List.length_nil, List.replicate, List.cons_append, List.nil_append, Nat.reduceSub, Nat.reduceAdd, List.getElem?_cons_zero, List.getElem?_cons_succ, List.getElem?_nil, List.set_cons_zero, List.set_cons_succ, opF, cmpF, Bi.fd, Option.map_some, if_true, if_false, Bool.true_eq_false, Bool.false_eq_true, reduceIte, Bool.not_true, Bool.not_false, w_some, w_none, w_fz0, w_fz1, w_t0, w_t1, w_t2, w_t3, w_t4, w_add, w_addL, w_addT, w_sub, w_subB, w_mul, w_mulL, w_mulT, w_mod, w_div, w_lt, w_le, w_gt, w_ge, w_is, w_isnt, w_n0, w_n1, w_n2, w_n3, w_n4, w_neg, w_atL, w_atT, w_lenL, w_lenT, w_tupL, w_tupT, w_lisL, w_lisT, w_abs, w_int, w_intB, w_gcd, w_min, w_max, w_seqL, w_seqT, w_augA, w_augS, w_augM, w_intQ, w_lstQ, w_rng1, w_rng2, w_zipL, w_zipT, w_zipM, w_zipN, w_enum, w_enumT]
  refine ⟨rngOk_small (by omega) (by omega), ?_⟩
  refine ⟨by rw [List.length_map, List.length_range]; exact small (by omega), ?_⟩
  refine foldW_any (R := fun _ y => ∃ i : Int, y = PyData.int i ∧ (0 ≤ i ∧ i < 2)) (fun k acc kk hk hkk => ?_) (fun ys hys => ?_)
  · exact ⟨2, rfl, by decide, by decide, fun u u0 u1 => hkk _ ⟨u, rfl, u0, u1⟩⟩
  obtain ⟨ev, rfl, hl2, hev⟩ := paired_ints hys
  rw [List.length_range] at hl2
  have he : Ek m ev := ⟨hl2, fun i h0 h1 => by
    have := hev (ge ev i) (getD_mem 0 (by omega))
    omega⟩
  exact fin m w (a, b) ev hw he ⟨pa, pb, sa, sb⟩ _
theorem law39_pure {P : D → Prop} {PE : Str → Prop} (g : H39 Γ) (hP : P (.bool true)) : wpSs Γ d_law.body [none, some .dr, none, none, none, none, none, none, none, none, none, none, none, none, none, none, none, none, none, none, none, none, none] (kt0 P PE) := by
  have e : d_law.body = .cons (.loop (.n 2) (.rng (.cons (.int 3) .nil)) lb39) (stsDrop 1 d_law.body) := rfl
  have turn := fun (K : Kt) ρ hK hρ => seg_turn g (K := K) (ρ := ρ) hK hρ
  rw [e]
  generalize lb39 = B at turn
  simp only [stsDrop, d_law, true_and, wpSs, wpS, wpE, wpX, wpO, wpC, wpI, ent, kt0, bindT, bindTs, tgsLen, wipeR, constD, owL, List.map_cons, List.map_nil, List.length_cons, List.length_nil, List.replicate, List.cons_append, List.nil_append, Nat.reduceSub, Nat.reduceAdd, List.getElem?_cons_zero, List.getElem?_cons_succ, List.getElem?_nil, List.set_cons_zero, List.set_cons_succ, opF, cmpF, Bi.fd, Option.map_some, if_true, if_false, Bool.true_eq_false, Bool.false_eq_true, reduceIte, Bool.not_true, Bool.not_false, w_some, w_none, w_fz0, w_fz1, w_t0, w_t1, w_t2, w_t3, w_t4, w_add, w_addL, w_addT, w_sub, w_subB, w_mul, w_mulL, w_mulT, w_mod, w_div, w_lt, w_le, w_gt, w_ge, w_is, w_isnt, w_n0, w_n1, w_n2, w_n3, w_n4, w_neg, w_atL, w_atT, w_lenL, w_lenT, w_tupL, w_tupT, w_lisL, w_lisT, w_abs, w_int, w_intB, w_gcd, w_min, w_max, w_seqL, w_seqT, w_augA, w_augS, w_augM, w_intQ, w_lstQ, w_rng1, w_rng2, w_zipL, w_zipT, w_zipM, w_zipN, w_enum, w_enumT]
  refine ⟨rngOk_small (by decide) (by decide), ?_⟩
  rw [show (3 : Int).toNat = 3 from rfl, rangeD0]
  refine forW_ix (I := fun k ρ => Any39 ρ) ⟨_, _, _, _, _, _, _, _, _, _, _, _, _, _, _, _, _, _, _, _, _, rfl⟩ (fun k ρ kk hk hI hkk => ?_) (fun ρ hI => ?_)
  · obtain ⟨y2, y3, y4, y5, y6, y7, y8, y9, y10, y11, y12, y13, y14, y15, y16, y17, y18, y19, y20, y21, y22, rfl⟩ := hI
    simp only [true_and, wpSs, wpS, wpE, wpX, wpO, wpC, wpI, ent, kt0, bindT, bindTs, tgsLen, wipeR, constD, owL, List.map_cons, List.map_nil, List.length_cons, List.length_nil, List.replicate, List.cons_append, List.nil_append, Nat.reduceSub, Nat.reduceAdd, List.getElem?_cons_zero, List.getElem?_cons_succ, List.getElem?_nil, List.set_cons_zero, List.set_cons_succ, opF, cmpF, Bi.fd, Option.map_some, if_true, if_false, Bool.true_eq_false, Bool.false_eq_true, reduceIte, Bool.not_true, Bool.not_false, w_some, w_none, w_fz0, w_fz1, w_t0, w_t1, w_t2, w_t3, w_t4, w_add, w_addL, w_addT, w_sub, w_subB, w_mul, w_mulL, w_mulT, w_mod, w_div, w_lt, w_le, w_gt, w_ge, w_is, w_isnt, w_n0, w_n1, w_n2, w_n3, w_n4, w_neg, w_atL, w_atT, w_lenL, w_lenT, w_tupL, w_tupT, w_lisL, w_lisT, w_abs, w_int, w_intB, w_gcd, w_min, w_max, w_seqL, w_seqT, w_augA, w_augS, w_augM, w_intQ, w_lstQ, w_rng1, w_rng2, w_zipL, w_zipT, w_zipM, w_zipN, w_enum, w_enumT]
    exact turn _ _ hkk ⟨_, _, _, _, _, _, _, _, _, _, _, _, _, _, _, _, _, _, _, _, _, rfl⟩
  · obtain ⟨y2, y3, y4, y5, y6, y7, y8, y9, y10, y11, y12, y13, y14, y15, y16, y17, y18, y19, y20, y21, y22, rfl⟩ := hI
    exact hP
end
end DL

set_option Elab.async false
set_option linter.all false
set_option maxRecDepth 100000
set_option maxHeartbeats 4000000
namespace Law
open PySem PySem.Spec PyProof.Rows L2 DL
/-! the table of the program's defs -/
def gl : List (Str × D) := [("NOTHING", (.tuple [(.int 0), (.int 1)]))]
def exs : List Str := ["NotAllowed"]
def Γ0 : Gam := ⟨fun _ _ _ _ => False, gl, [], exs⟩
theorem chk0_lowest : chkD Γ0 d_lowest (topS 6) = true := by decide +kernel
def Γ1 : Gam := Γ0.add "lowest" φ_lowest
theorem chk1_plus : chkD Γ1 d_plus (topS 7) = true := by decide +kernel
def Γ2 : Gam := Γ1.add "plus" φ_plus
theorem chk2_over : chkD Γ2 d_over (topS 8) = true := by decide +kernel
def Γ3 : Gam := Γ2.add "over" φ_over
theorem chk3_total_of : chkD Γ3 d_total_of (topS 10) = true := by decide +kernel
def Γ4 : Gam := Γ3.add "total_of" φ_total_of
theorem chk4_common : chkD Γ4 d_common (topS 12) = true := by decide +kernel
def Γ5 : Gam := Γ4.add "common" φ_common
theorem chk5_block_of : chkD Γ5 d_block_of (topS 13) = true := by decide +kernel
def Γ6 : Gam := Γ5.add "block_of" φ_block_of
theorem chk6_opinion_in : chkD Γ6 d_opinion_in (topS 15) = true := by decide +kernel
def Γ7 : Gam := Γ6.add "opinion_in" φ_opinion_in
theorem chk7_opinion : chkD Γ7 d_opinion (topS 16) = true := by decide +kernel
def Γ8 : Gam := Γ7.add "opinion" φ_opinion
theorem chk8_opinions : chkD Γ8 d_opinions (topS 17) = true := by decide +kernel
def Γ9 : Gam := Γ8.add "opinions" φ_opinions
theorem chk9_knows : chkD Γ9 d_knows (topS 18) = true := by decide +kernel
def Γ10 : Gam := Γ9.add "knows" φ_knows
theorem chk10_commonly_known : chkD Γ10 d_commonly_known (topS 19) = true := by decide +kernel
def Γ11 : Gam := Γ10.add "commonly_known" φ_commonly_known
theorem chk11_parted_by : chkD Γ11 d_parted_by (topS 20) = true := by decide +kernel
def Γ12 : Gam := Γ11.add "parted_by" φ_parted_by
theorem chk12_talk : chkD Γ12 d_talk (topS 21) = true := by decide +kernel
def Γ13 : Gam := Γ12.add "talk" φ_talk
theorem chk13_agreed : chkD Γ13 d_agreed (topS 22) = true := by decide +kernel
def Γ14 : Gam := Γ13.add "agreed" φ_agreed
def Γ15 : Gam := Γ14.add "_law_take" φTake
theorem chk15__law_lowest : chkD Γ15 d__law_lowest (topS 26) = true := by decide +kernel
def Γ16 : Gam := Γ15.add "_law_lowest" φ__law_lowest
theorem chk16__law_plus : chkD Γ16 d__law_plus (topS 27) = true := by decide +kernel
def Γ17 : Gam := Γ16.add "_law_plus" φ__law_plus
def Γ18 : Gam := Γ17.add "_law_times" φNo
def Γ19 : Gam := Γ18.add "_law_less" φNo
theorem chk19__law_total : chkD Γ19 d__law_total (topS 30) = true := by decide +kernel
def Γ20 : Gam := Γ19.add "_law_total" φ__law_total
def Γ21 : Gam := Γ20.add "_law_row" φNo
def Γ22 : Gam := Γ21.add "_law_channel" φNo
def Γ23 : Gam := Γ22.add "_law_gains" φNo
def Γ24 : Gam := Γ23.add "_law_worth" φNo
theorem chk24__law_blocks : chkD Γ24 d__law_blocks (topS 35) = true := by decide +kernel
def Γ25 : Gam := Γ24.add "_law_blocks" φ__law_blocks
theorem chk25__law_of : chkD Γ25 d__law_of (topS 36) = true := by decide +kernel
def Γ26 : Gam := Γ25.add "_law_of" φ__law_of
theorem chk26__law_opinions : chkD Γ26 d__law_opinions (topS 37) = true := by decide +kernel
def Γ27 : Gam := Γ26.add "_law_opinions" φ__law_opinions
theorem chk27__law_reach : chkD Γ27 d__law_reach (topS 38) = true := by decide +kernel
def Γ28 : Gam := Γ27.add "_law_reach" φ__law_reach
theorem chk28__law_parted : chkD Γ28 d__law_parted (topS 39) = true := by decide +kernel
def Γ29 : Gam := Γ28.add "_law_parted" φ__law_parted
def ΓL : Gam := Γ29
theorem chk_law : chkL Γ29 d_law (topS 40) = true := by decide +kernel
end Law

set_option Elab.async false
set_option linter.all false
set_option maxRecDepth 100000
set_option maxHeartbeats 0
namespace Law
open PySem PySem.Spec PyProof.Rows L2 DL
/-! the head: what the top has written -/
def fn : List He.DefD := [dX "lowest" 6, dX "plus" 7, dX "over" 8, dX "total_of" 10, dX "common" 12, dX "block_of" 13, dX "opinion_in" 15, dX "opinion" 16, dX "opinions" 17, dX "knows" 18, dX "commonly_known" 19, dX "parted_by" 20, dX "talk" 21, dX "agreed" 22, dX "_law_draw" 24, dX "_law_take" 25, dX "_law_lowest" 26, dX "_law_plus" 27, dX "_law_times" 28, dX "_law_less" 29, dX "_law_total" 30, dX "_law_row" 31, dX "_law_channel" 32, dX "_law_gains" 33, dX "_law_worth" 34, dX "_law_blocks" 35, dX "_law_of" 36, dX "_law_opinions" 37, dX "_law_reach" 38, dX "_law_parted" 39, dX "law" 40]
def fa : List He.Fa := frees ++ (exFa exs ++ [.glo "lowest", .glo "plus", .glo "over", .glo "total_of", .glo "common", .glo "block_of", .glo "opinion_in", .glo "opinion", .glo "opinions", .glo "knows", .glo "commonly_known", .glo "parted_by", .glo "talk", .glo "agreed", .glo "_law_draw", .glo "_law_take", .glo "_law_lowest", .glo "_law_plus", .glo "_law_times", .glo "_law_less", .glo "_law_total", .glo "_law_row", .glo "_law_channel", .glo "_law_gains", .glo "_law_worth", .glo "_law_blocks", .glo "_law_of", .glo "_law_opinions", .glo "_law_reach", .glo "_law_parted", .glo "law"])
def xs : List Xa := datXs gl ++ []
def loose0 : List PySem.Str := ["GuessError", "NotAllowed", "NOTHING", "lowest", "plus", "over", "total_of", "common", "block_of", "opinion_in", "opinion", "opinions", "knows", "commonly_known", "parted_by", "talk", "agreed", "_law_draw", "_law_take", "_law_lowest", "_law_plus", "_law_times", "_law_less", "_law_total", "_law_row", "_law_channel", "_law_gains", "_law_worth", "_law_blocks", "_law_of"]
def loose1 : List PySem.Str := ["_law_opinions", "_law_reach", "_law_parted"]
def loose : List PySem.Str := loose0 ++ loose1
abbrev R : PySem.W.OpenRow := PySem.W.OpenLaw.row PySem.Challenge.rw_guessbound_k39_opinions_that_cannot_diff
abbrev hk : PySem.W.Hook := hookX 4 fa fn xs
def ob (s : PySem.W.SharedT) : AlX := obsXG 4 fa fn xs (HandSHeadRun.getT s)
theorem ob_eq (s : PySem.W.SharedT) : ob s = hk.obs s.abs := obsXG_eq (HandSHeadRun.getT_eq s)
theorem run (w : World) : HandSHeadRun.RunEqI R (PySem.W.view R.prog [0, 40]) hk ob 6000 loose w := by
  unfold HandSHeadRun.RunEqI
  kernel_rfl
end Law

set_option Elab.async false
set_option linter.all false
set_option maxRecDepth 100000
set_option maxHeartbeats 4000000
namespace Law
open PySem PySem.Spec PyProof.Rows L2 DL
theorem pure_law : wpSs ΓL d_law.body (entL d_law.N.length) (kt0 (fun r => r = .bool true) fun _ => False) :=
  law39_pure ⟨by rfl, by rfl, by rfl, by rfl, by rfl, by rfl, by rfl, by rfl, by rfl, by rfl, by rfl, by rfl, by rfl⟩ rfl
end Law

set_option Elab.async false
set_option linter.all false
set_option maxRecDepth 100000
set_option maxHeartbeats 0
namespace Law
open PySem PySem.Spec PyProof.Rows L2 DL
section
variable {P : Program} {w : World} {K : PySem.W.Frag} {h : Heap} {mg : Str → Option Value} {f : Addr}
theorem facts (X : K.In h) (G : h.Ns mainGlobals mg) (hfa : mg ("law" : Str) = some (.ref f)) (c : SaysX fa fn xs K) :
    ∃ fd : FuncData, (∀ (s : Shared) (v : Value), BindsTo s fd ⟨[v], []⟩ [("script", v)]) ∧ ∀ base : Heap, K.In base → base.Ns mainGlobals mg → FnOk P w K mg base (L2.CX P w) 30 f fd ["script"] (spLaw K) := by
  obtain ⟨fd_lowest, F_lowest⟩ := def_at c 0 (x := "lowest") (j := 6) rfl
  obtain ⟨fd_plus, F_plus⟩ := def_at c 1 (x := "plus") (j := 7) rfl
  obtain ⟨fd_over, F_over⟩ := def_at c 2 (x := "over") (j := 8) rfl
  obtain ⟨fd_total_of, F_total_of⟩ := def_at c 3 (x := "total_of") (j := 10) rfl
  obtain ⟨fd_common, F_common⟩ := def_at c 4 (x := "common") (j := 12) rfl
  obtain ⟨fd_block_of, F_block_of⟩ := def_at c 5 (x := "block_of") (j := 13) rfl
  obtain ⟨fd_opinion_in, F_opinion_in⟩ := def_at c 6 (x := "opinion_in") (j := 15) rfl
  obtain ⟨fd_opinion, F_opinion⟩ := def_at c 7 (x := "opinion") (j := 16) rfl
  obtain ⟨fd_opinions, F_opinions⟩ := def_at c 8 (x := "opinions") (j := 17) rfl
  obtain ⟨fd_knows, F_knows⟩ := def_at c 9 (x := "knows") (j := 18) rfl
  obtain ⟨fd_commonly_known, F_commonly_known⟩ := def_at c 10 (x := "commonly_known") (j := 19) rfl
  obtain ⟨fd_parted_by, F_parted_by⟩ := def_at c 11 (x := "parted_by") (j := 20) rfl
  obtain ⟨fd_talk, F_talk⟩ := def_at c 12 (x := "talk") (j := 21) rfl
  obtain ⟨fd_agreed, F_agreed⟩ := def_at c 13 (x := "agreed") (j := 22) rfl
  obtain ⟨fd__law_draw, F__law_draw⟩ := def_at c 14 (x := "_law_draw") (j := 24) rfl
  obtain ⟨fd__law_take, F__law_take⟩ := def_at c 15 (x := "_law_take") (j := 25) rfl
  obtain ⟨fd__law_lowest, F__law_lowest⟩ := def_at c 16 (x := "_law_lowest") (j := 26) rfl
  obtain ⟨fd__law_plus, F__law_plus⟩ := def_at c 17 (x := "_law_plus") (j := 27) rfl
  obtain ⟨fd__law_times, F__law_times⟩ := def_at c 18 (x := "_law_times") (j := 28) rfl
  obtain ⟨fd__law_less, F__law_less⟩ := def_at c 19 (x := "_law_less") (j := 29) rfl
  obtain ⟨fd__law_total, F__law_total⟩ := def_at c 20 (x := "_law_total") (j := 30) rfl
  obtain ⟨fd__law_row, F__law_row⟩ := def_at c 21 (x := "_law_row") (j := 31) rfl
  obtain ⟨fd__law_channel, F__law_channel⟩ := def_at c 22 (x := "_law_channel") (j := 32) rfl
  obtain ⟨fd__law_gains, F__law_gains⟩ := def_at c 23 (x := "_law_gains") (j := 33) rfl
  obtain ⟨fd__law_worth, F__law_worth⟩ := def_at c 24 (x := "_law_worth") (j := 34) rfl
  obtain ⟨fd__law_blocks, F__law_blocks⟩ := def_at c 25 (x := "_law_blocks") (j := 35) rfl
  obtain ⟨fd__law_of, F__law_of⟩ := def_at c 26 (x := "_law_of") (j := 36) rfl
  obtain ⟨fd__law_opinions, F__law_opinions⟩ := def_at c 27 (x := "_law_opinions") (j := 37) rfl
  obtain ⟨fd__law_reach, F__law_reach⟩ := def_at c 28 (x := "_law_reach") (j := 38) rfl
  obtain ⟨fd__law_parted, F__law_parted⟩ := def_at c 29 (x := "_law_parted") (j := 39) rfl
  obtain ⟨fd_law, F_law⟩ := def_at c 30 (x := "law") (j := 40) rfl
  have e := hfa.symm.trans (He.glo_ok X G (fa_glo (exs := exs) c 30 (f := .glo "law") rfl))
  cases e
  refine ⟨fd_law, fun s v => (FunD.bindsA (ps := ["script"]) F_law fun _ _ _ _ _ _ us hl => match us, hl with | [_], _ => rfl) s [v] rfl, fun base _ _ => ?_⟩
  have g0 : GOk (glb0 P w K mg base Γ0) := g0_ok (exs := exs) X G c rfl rfl
  have e0 : EOk (glb0 P w K mg base Γ0) := e0_ok (exs := exs) X G c rfl
  have g1 : GOk (glbk P w K mg base 1 Γ1) := g0.add e0 (d := d_lowest) (st := topS 6) φ_lowest F_lowest (He.glo_ok X G (fa_glo (exs := exs) c 0 (f := .glo "lowest") rfl)) chk0_lowest (fun _ _ _ _ _ _ us hl => match us, hl with | [_, _], _ => rfl) (imp_lowest)
  have e1 : EOk (glbk P w K mg base 1 Γ1) := e0.grow (nm := "lowest") (φ := φ_lowest)
  have g2 : GOk (glbk P w K mg base 2 Γ2) := g1.add e1 (d := d_plus) (st := topS 7) φ_plus F_plus (He.glo_ok X G (fa_glo (exs := exs) c 1 (f := .glo "plus") rfl)) chk1_plus (fun _ _ _ _ _ _ us hl => match us, hl with | [_, _], _ => rfl) (imp_plus (by rfl))
  have e2 : EOk (glbk P w K mg base 2 Γ2) := e1.grow (nm := "plus") (φ := φ_plus)
  have g3 : GOk (glbk P w K mg base 3 Γ3) := g2.add e2 (d := d_over) (st := topS 8) φ_over F_over (He.glo_ok X G (fa_glo (exs := exs) c 2 (f := .glo "over") rfl)) chk2_over (fun _ _ _ _ _ _ us hl => match us, hl with | [_, _], _ => rfl) (imp_over (by rfl))
  have e3 : EOk (glbk P w K mg base 3 Γ3) := e2.grow (nm := "over") (φ := φ_over)
  have g4 : GOk (glbk P w K mg base 4 Γ4) := g3.add e3 (d := d_total_of) (st := topS 10) φ_total_of F_total_of (He.glo_ok X G (fa_glo (exs := exs) c 3 (f := .glo "total_of") rfl)) chk3_total_of (fun _ _ _ _ _ _ us hl => match us, hl with | [_], _ => rfl) (imp_total_of (by rfl) (by rfl))
  have e4 : EOk (glbk P w K mg base 4 Γ4) := e3.grow (nm := "total_of") (φ := φ_total_of)
  have g5 : GOk (glbk P w K mg base 5 Γ5) := g4.add e4 (d := d_common) (st := topS 12) φ_common F_common (He.glo_ok X G (fa_glo (exs := exs) c 4 (f := .glo "common") rfl)) chk4_common (fun _ _ _ _ _ _ us hl => match us, hl with | [_, _, _], _ => rfl) (imp_common)
  have e5 : EOk (glbk P w K mg base 5 Γ5) := e4.grow (nm := "common") (φ := φ_common)
  have g6 : GOk (glbk P w K mg base 6 Γ6) := g5.add e5 (d := d_block_of) (st := topS 13) φ_block_of F_block_of (He.glo_ok X G (fa_glo (exs := exs) c 5 (f := .glo "block_of") rfl)) chk5_block_of (fun _ _ _ _ _ _ us hl => match us, hl with | [_, _], _ => rfl) (imp_block_of)
  have e6 : EOk (glbk P w K mg base 6 Γ6) := e5.grow (nm := "block_of") (φ := φ_block_of)
  have g7 : GOk (glbk P w K mg base 7 Γ7) := g6.add e6 (d := d_opinion_in) (st := topS 15) φ_opinion_in F_opinion_in (He.glo_ok X G (fa_glo (exs := exs) c 6 (f := .glo "opinion_in") rfl)) chk6_opinion_in (fun _ _ _ _ _ _ us hl => match us, hl with | [_, _, _], _ => rfl) (imp_opinion_in (by rfl) (by rfl))
  have e7 : EOk (glbk P w K mg base 7 Γ7) := e6.grow (nm := "opinion_in") (φ := φ_opinion_in)
  have g8 : GOk (glbk P w K mg base 8 Γ8) := g7.add e7 (d := d_opinion) (st := topS 16) φ_opinion F_opinion (He.glo_ok X G (fa_glo (exs := exs) c 7 (f := .glo "opinion") rfl)) chk7_opinion (fun _ _ _ _ _ _ us hl => match us, hl with | [_, _, _, _], _ => rfl) (imp_opinion (by rfl) (by rfl))
  have e8 : EOk (glbk P w K mg base 8 Γ8) := e7.grow (nm := "opinion") (φ := φ_opinion)
  have g9 : GOk (glbk P w K mg base 9 Γ9) := g8.add e8 (d := d_opinions) (st := topS 17) φ_opinions F_opinions (He.glo_ok X G (fa_glo (exs := exs) c 8 (f := .glo "opinions") rfl)) chk8_opinions (fun _ _ _ _ _ _ us hl => match us, hl with | [_, _, _], _ => rfl) (imp_opinions (by rfl))
  have e9 : EOk (glbk P w K mg base 9 Γ9) := e8.grow (nm := "opinions") (φ := φ_opinions)
  have g10 : GOk (glbk P w K mg base 10 Γ10) := g9.add e9 (d := d_knows) (st := topS 18) φ_knows F_knows (He.glo_ok X G (fa_glo (exs := exs) c 9 (f := .glo "knows") rfl)) chk9_knows (fun _ _ _ _ _ _ us hl => match us, hl with | [_, _], _ => rfl) (imp_knows (by rfl))
  have e10 : EOk (glbk P w K mg base 10 Γ10) := e9.grow (nm := "knows") (φ := φ_knows)
  have g11 : GOk (glbk P w K mg base 11 Γ11) := g10.add e10 (d := d_commonly_known) (st := topS 19) φ_commonly_known F_commonly_known (He.glo_ok X G (fa_glo (exs := exs) c 10 (f := .glo "commonly_known") rfl)) chk10_commonly_known (fun _ _ _ _ _ _ us hl => match us, hl with | [_, _, _], _ => rfl) (imp_commonly_known (by rfl) (by rfl))
  have e11 : EOk (glbk P w K mg base 11 Γ11) := e10.grow (nm := "commonly_known") (φ := φ_commonly_known)
  have g12 : GOk (glbk P w K mg base 12 Γ12) := g11.add e11 (d := d_parted_by) (st := topS 20) φ_parted_by F_parted_by (He.glo_ok X G (fa_glo (exs := exs) c 11 (f := .glo "parted_by") rfl)) chk11_parted_by (fun _ _ _ _ _ _ us hl => match us, hl with | [_, _], _ => rfl) (imp_parted_by)
  have e12 : EOk (glbk P w K mg base 12 Γ12) := e11.grow (nm := "parted_by") (φ := φ_parted_by)
  have g13 : GOk (glbk P w K mg base 13 Γ13) := g12.add e12 (d := d_talk) (st := topS 21) φ_talk F_talk (He.glo_ok X G (fa_glo (exs := exs) c 12 (f := .glo "talk") rfl)) chk12_talk (fun _ _ _ _ _ _ us hl => match us, hl with | [_, _, _, _], _ => rfl) (imp_talk (by rfl) (by rfl))
  have e13 : EOk (glbk P w K mg base 13 Γ13) := e12.grow (nm := "talk") (φ := φ_talk)
  have g14 : GOk (glbk P w K mg base 14 Γ14) := g13.add e13 (d := d_agreed) (st := topS 22) φ_agreed F_agreed (He.glo_ok X G (fa_glo (exs := exs) c 13 (f := .glo "agreed") rfl)) chk13_agreed (fun _ _ _ _ _ _ us hl => match us, hl with | [_, _, _, _], _ => rfl) (imp_agreed (by rfl) (by rfl))
  have e14 : EOk (glbk P w K mg base 14 Γ14) := e13.grow (nm := "agreed") (φ := φ_agreed)
  have g15 : GOk (glbk P w K mg base 15 Γ15) := g14.grow (nm := "_law_take") (φ := φTake) (He.glo_ok X G (fa_glo (exs := exs) c 15 (f := .glo "_law_take") rfl)) F__law_take.kp (FunD.bindsN (ps := ["draw", "many"]) F__law_take fun _ _ _ _ _ _ us hl => match us, hl with | [_, _], _ => rfl) (ok_take F__law_take (fr_ok (exs := exs) X G c 0 rfl) (fr_ok (exs := exs) X G c 9 rfl))
  have e15 : EOk (glbk P w K mg base 15 Γ15) := e14.grow (nm := "_law_take") (φ := φTake)
  have g16 : GOk (glbk P w K mg base 16 Γ16) := g15.add e15 (d := d__law_lowest) (st := topS 26) φ__law_lowest F__law_lowest (He.glo_ok X G (fa_glo (exs := exs) c 16 (f := .glo "_law_lowest") rfl)) chk15__law_lowest (fun _ _ _ _ _ _ us hl => match us, hl with | [_, _], _ => rfl) (imp__law_lowest)
  have e16 : EOk (glbk P w K mg base 16 Γ16) := e15.grow (nm := "_law_lowest") (φ := φ__law_lowest)
  have g17 : GOk (glbk P w K mg base 17 Γ17) := g16.add e16 (d := d__law_plus) (st := topS 27) φ__law_plus F__law_plus (He.glo_ok X G (fa_glo (exs := exs) c 17 (f := .glo "_law_plus") rfl)) chk16__law_plus (fun _ _ _ _ _ _ us hl => match us, hl with | [_, _], _ => rfl) (imp__law_plus (by rfl))
  have e17 : EOk (glbk P w K mg base 17 Γ17) := e16.grow (nm := "_law_plus") (φ := φ__law_plus)
  have g18 : GOk (glbk P w K mg base 18 Γ18) := g17.none (nm := "_law_times") (He.glo_ok X G (fa_glo (exs := exs) c 18 (f := .glo "_law_times") rfl)) F__law_times.kp (FunD.bindsN (ps := ["p", "q"]) F__law_times fun _ _ _ _ _ _ us hl => match us, hl with | [_, _], _ => rfl)
  have e18 : EOk (glbk P w K mg base 18 Γ18) := e17.grow (nm := "_law_times") (φ := φNo)
  have g19 : GOk (glbk P w K mg base 19 Γ19) := g18.none (nm := "_law_less") (He.glo_ok X G (fa_glo (exs := exs) c 19 (f := .glo "_law_less") rfl)) F__law_less.kp (FunD.bindsN (ps := ["p", "q"]) F__law_less fun _ _ _ _ _ _ us hl => match us, hl with | [_, _], _ => rfl)
  have e19 : EOk (glbk P w K mg base 19 Γ19) := e18.grow (nm := "_law_less") (φ := φNo)
  have g20 : GOk (glbk P w K mg base 20 Γ20) := g19.add e19 (d := d__law_total) (st := topS 30) φ__law_total F__law_total (He.glo_ok X G (fa_glo (exs := exs) c 20 (f := .glo "_law_total") rfl)) chk19__law_total (fun _ _ _ _ _ _ us hl => match us, hl with | [_], _ => rfl) (imp__law_total (by rfl))
  have e20 : EOk (glbk P w K mg base 20 Γ20) := e19.grow (nm := "_law_total") (φ := φ__law_total)
  have g21 : GOk (glbk P w K mg base 21 Γ21) := g20.none (nm := "_law_row") (He.glo_ok X G (fa_glo (exs := exs) c 21 (f := .glo "_law_row") rfl)) F__law_row.kp (FunD.bindsN (ps := ["draw", "many"]) F__law_row fun _ _ _ _ _ _ us hl => match us, hl with | [_, _], _ => rfl)
  have e21 : EOk (glbk P w K mg base 21 Γ21) := e20.grow (nm := "_law_row") (φ := φNo)
  have g22 : GOk (glbk P w K mg base 22 Γ22) := g21.none (nm := "_law_channel") (He.glo_ok X G (fa_glo (exs := exs) c 22 (f := .glo "_law_channel") rfl)) F__law_channel.kp (FunD.bindsN (ps := ["draw", "m", "n"]) F__law_channel fun _ _ _ _ _ _ us hl => match us, hl with | [_, _, _], _ => rfl)
  have e22 : EOk (glbk P w K mg base 22 Γ22) := e21.grow (nm := "_law_channel") (φ := φNo)
  have g23 : GOk (glbk P w K mg base 23 Γ23) := g22.none (nm := "_law_gains") (He.glo_ok X G (fa_glo (exs := exs) c 23 (f := .glo "_law_gains") rfl)) F__law_gains.kp (FunD.bindsN (ps := ["draw", "m", "most"]) F__law_gains fun _ _ _ _ _ _ us hl => match us, hl with | [_, _, _], _ => rfl)
  have e23 : EOk (glbk P w K mg base 23 Γ23) := e22.grow (nm := "_law_gains") (φ := φNo)
  have g24 : GOk (glbk P w K mg base 24 Γ24) := g23.none (nm := "_law_worth") (He.glo_ok X G (fa_glo (exs := exs) c 24 (f := .glo "_law_worth") rfl)) F__law_worth.kp (FunD.bindsN (ps := ["prior", "channel", "gains"]) F__law_worth fun _ _ _ _ _ _ us hl => match us, hl with | [_, _, _], _ => rfl)
  have e24 : EOk (glbk P w K mg base 24 Γ24) := e23.grow (nm := "_law_worth") (φ := φNo)
  have g25 : GOk (glbk P w K mg base 25 Γ25) := g24.add e24 (d := d__law_blocks) (st := topS 35) φ__law_blocks F__law_blocks (He.glo_ok X G (fa_glo (exs := exs) c 25 (f := .glo "_law_blocks") rfl)) chk24__law_blocks (fun _ _ _ _ _ _ us hl => match us, hl with | [_, _], _ => rfl) (imp__law_blocks (by rfl))
  have e25 : EOk (glbk P w K mg base 25 Γ25) := e24.grow (nm := "_law_blocks") (φ := φ__law_blocks)
  have g26 : GOk (glbk P w K mg base 26 Γ26) := g25.add e25 (d := d__law_of) (st := topS 36) φ__law_of F__law_of (He.glo_ok X G (fa_glo (exs := exs) c 26 (f := .glo "_law_of") rfl)) chk25__law_of (fun _ _ _ _ _ _ us hl => match us, hl with | [_, _], _ => rfl) (imp__law_of)
  have e26 : EOk (glbk P w K mg base 26 Γ26) := e25.grow (nm := "_law_of") (φ := φ__law_of)
  have g27 : GOk (glbk P w K mg base 27 Γ27) := g26.add e26 (d := d__law_opinions) (st := topS 37) φ__law_opinions F__law_opinions (He.glo_ok X G (fa_glo (exs := exs) c 27 (f := .glo "_law_opinions") rfl)) chk26__law_opinions (fun _ _ _ _ _ _ us hl => match us, hl with | [_, _, _], _ => rfl) (imp__law_opinions (by rfl) (by rfl) (by rfl))
  have e27 : EOk (glbk P w K mg base 27 Γ27) := e26.grow (nm := "_law_opinions") (φ := φ__law_opinions)
  have g28 : GOk (glbk P w K mg base 28 Γ28) := g27.add e27 (d := d__law_reach) (st := topS 38) φ__law_reach F__law_reach (He.glo_ok X G (fa_glo (exs := exs) c 28 (f := .glo "_law_reach") rfl)) chk27__law_reach (fun _ _ _ _ _ _ us hl => match us, hl with | [_, _, _], _ => rfl) (imp__law_reach)
  have e28 : EOk (glbk P w K mg base 28 Γ28) := e27.grow (nm := "_law_reach") (φ := φ__law_reach)
  have g29 : GOk (glbk P w K mg base 29 Γ29) := g28.add e28 (d := d__law_parted) (st := topS 39) φ__law_parted F__law_parted (He.glo_ok X G (fa_glo (exs := exs) c 29 (f := .glo "_law_parted") rfl)) chk28__law_parted (fun _ _ _ _ _ _ us hl => match us, hl with | [_, _], _ => rfl) (imp__law_parted)
  have e29 : EOk (glbk P w K mg base 29 Γ29) := e28.grow (nm := "_law_parted") (φ := φ__law_parted)
  exact law_ok g29 e29 F_law F__law_draw (He.glo_ok X G (fa_glo (exs := exs) c 14 (f := .glo "_law_draw") rfl)) chk_law (FunD.bindsN (ps := ["script"]) F__law_draw fun _ _ _ _ _ _ us hl => match us, hl with | [_], _ => rfl)
    ((ok_draw (k := 0) F__law_draw (fr_ok (exs := exs) X G c 6 rfl) (fr_ok (exs := exs) X G c 9 rfl)).mono (show 1 ≤ 29 by decide)) pure_law
end
end Law
open PySem PySem.W PySem.Calls PyProof.Rows
theorem PySem.Challenge.cw_guessbound_k39_opinions_that_cannot_diff_holds : PySem.Challenge.rw_guessbound_k39_opinions_that_cannot_diff.Holds := by
  w_on; o_law
  refine HandSHeadRun.head_imp (r := OpenLaw.row PySem.Challenge.rw_guessbound_k39_opinions_that_cannot_diff) (q := view (OpenLaw.row PySem.Challenge.rw_guessbound_k39_opinions_that_cannot_diff).prog [0, 40]) (H := Law.hk) (ob := Law.ob) (M := 6000) (loose := Law.loose) (d := HandSHeadRun.topDef (OpenLaw.row PySem.Challenge.rw_guessbound_k39_opinions_that_cannot_diff).prog 40) (kwd := []) Law.ob_eq
    Law.run (by kernel_rfl) (by kernel_rfl) (by kernel_rfl) (by rfl) (by first | assumption | decide +kernel) (by decide +kernel) ⟨rfl, rfl, rfl, rfl, rfl, by decide +kernel⟩ ?hw ?hc
  case hw => w_witness2
  case hc =>
    exact DL.walk_end (l := PySem.Challenge.rw_guessbound_k39_opinions_that_cannot_diff) (n := 30) rfl (by kernel_rfl) (by kernel_rfl) ⟨rfl, by decide, by decide⟩ fun w K h mg f KX G hm c => Law.facts KX G hm c

