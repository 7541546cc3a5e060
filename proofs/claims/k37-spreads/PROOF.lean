import PyProof.Rows.All
import Wide.All
import OpenK.AllK
import Wide.FinOn
import HandS.ForMost
import HandS.ForExc
import HandS.CallSlots
import HandS.Flow
import HandS.Gcd
import HandS.Wide
import HandS.Walk
import HandS.TupAny
import HandS.TupMul
import HandS.Deep
import HandS.IsInst
import HandS.Conv
import KE.SortData
import HandS.Rev
import KE.KDictKeyed
import KE.KDictWalk
import KE.KDictSum
import HandS.DictTup
import HandS.Keys
import HandS.Zip
import KE.GoesEnum
import KE.GoesZip
import KE.DataFind
import HandS.More
import HandS.HeadHook2
import KE.KStateDown
import HandS.Defaults
import HandS.Head0
import HandS.Head1
import HandS.Head2
import HandS.Head3
import HandS.HeadEnd
import HandS.HeadHook1
import HandS.HeadWalk
import PySem.Challenge.RW_guessbound_k37_spreads_and_guessing_on
set_option Elab.async false
set_option linter.all false
set_option maxRecDepth 100000
set_option maxHeartbeats 4000000
/-! a data layer over HandS: values as PyData, lists that a frame owns -/
namespace DL
open PySem PySem.Spec PyProof.Rows L2
abbrev D := PyData

/-! ### data in the abstract heap; O: the addresses that some frame may still change -/
/-- a tuple that stands: tracked, or of the written part -/
def StT (K : PySem.W.Frag) (O : Addr → Prop) (H : Hp) (a : Addr) (xs : List V) : Prop := (H a = some (.tup xs) ∧ ¬ O a) ∨ SqT K (fun _ => none) a xs
theorem StT.sq {K : PySem.W.Frag} {O : Addr → Prop} {H : Hp} {a : Addr} {xs : List V} (h : StT K O H a xs) : SqT K H a xs := by
  rcases h with h | (h | ⟨o, h⟩) | h
  · exact .inl (.inl h.1)
  · cases h
  · cases h
  · exact .inr h
mutual
inductive Dr (K : PySem.W.Frag) (O : Addr → Prop) (H : Hp) : V → D → Prop
  | non : Dr K O H .non .none
  | bl (b : Bool) : Dr K O H (.bl b) (.bool b)
  | int (i : Int) : Dr K O H (.int i) (.int i)
  | str (x : Str) : Dr K O H (.str x) (.str x)
  | lst {a : Addr} {xs : List V} {ds : List D} : H a = some (.lst xs) → ¬ O a → DrA K O H xs ds → Dr K O H (.ref a) (.list ds)
  | tup {a : Addr} {xs : List V} {ds : List D} : StT K O H a xs → DrA K O H xs ds → Dr K O H (.ref a) (.tuple ds)
inductive DrA (K : PySem.W.Frag) (O : Addr → Prop) (H : Hp) : List V → List D → Prop
  | nil : DrA K O H [] []
  | cons {v : V} {vs : List V} {d : D} {ds : List D} : Dr K O H v d → DrA K O H vs ds → DrA K O H (v :: vs) (d :: ds)
end
section
variable {K : PySem.W.Frag} {O O' : Addr → Prop} {H H' : Hp}
theorem StT.stay {a : Addr} {xs : List V} (h : StT K O H a xs) (kO : ∀ a o, H a = some o → ¬ O a → ¬ O' a) (k : ∀ o, ¬ O a → H a = some o → H' a = some o) : StT K O' H' a xs := by
  rcases h with h | h
  · exact .inl ⟨k _ h.2 h.1, kO _ _ h.1 h.2⟩
  · exact .inr h
mutual
/-- data stay while the heap keeps what no frame may change -/
theorem Dr.stay (kO : ∀ a o, H a = some o → ¬ O a → ¬ O' a) (k : ∀ b o, ¬ O b → H b = some o → H' b = some o) : ∀ (d : D) (v : V), Dr K O H v d → Dr K O' H' v d
  | .none, _, h => by cases h; exact .non
  | .bool _, _, h => by cases h; exact .bl _
  | .int _, _, h => by cases h; exact .int _
  | .str _, _, h => by cases h; exact .str _
  | .list ds, _, h => by
    cases h with
    | lst h1 h2 h3 => exact .lst (k _ _ h2 h1) (kO _ _ h1 h2) (DrA.stay kO k ds _ h3)
  | .tuple ds, _, h => by
    cases h with
    | tup h1 h3 => exact .tup (StT.stay h1 kO fun o n e => k _ o n e) (DrA.stay kO k ds _ h3)
  | .dict _, _, h => by cases h
theorem DrA.stay (kO : ∀ a o, H a = some o → ¬ O a → ¬ O' a) (k : ∀ b o, ¬ O b → H b = some o → H' b = some o) : ∀ (ds : List D) (vs : List V), DrA K O H vs ds → DrA K O' H' vs ds
  | [], _, h => by cases h; exact .nil
  | d :: ds, _, h => by
    cases h with
    | cons h1 h2 => exact .cons (Dr.stay kO k d _ h1) (DrA.stay kO k ds _ h2)
end
mutual
theorem Dr.dp : ∀ (d : D) (v : V), Dr K O H v d → Dp K H v d
  | .none, _, h => by cases h; exact .non
  | .bool _, _, h => by cases h; exact .bl _
  | .int _, _, h => by cases h; exact .int _
  | .str _, _, h => by cases h; exact .str _
  | .list ds, _, h => by
    cases h with
    | lst h1 h2 h3 => exact .lst (SqL.of h1) (DrA.dp ds _ h3)
  | .tuple ds, _, h => by
    cases h with
    | tup h1 h3 => exact .tup h1.sq (DrA.dp ds _ h3)
  | .dict _, _, h => by cases h
theorem DrA.dp : ∀ (ds : List D) (vs : List V), DrA K O H vs ds → DpAll K H vs ds
  | [], _, h => by cases h; exact .nil
  | d :: ds, _, h => by
    cases h with
    | cons h1 h2 => exact .cons (Dr.dp d _ h1) (DrA.dp ds _ h2)
end
theorem DrA.length : ∀ {ds : List D} {vs : List V}, DrA K O H vs ds → vs.length = ds.length
  | [], _, h => by cases h; rfl
  | _ :: _, _, h => by
    cases h with
    | cons _ h2 => exact congrArg (· + 1) (DrA.length h2)
theorem DrA.get : ∀ {ds : List D} {vs : List V} {i : Nat} {v : V}, DrA K O H vs ds → vs[i]? = some v → ∃ d, ds[i]? = some d ∧ Dr K O H v d
  | [], _, _, _, h, e => by cases h; simp at e
  | d :: ds, _, 0, _, h, e => by
    cases h with
    | cons h1 _ => simp at e; subst e; exact ⟨d, rfl, h1⟩
  | d :: ds, _, i + 1, _, h, e => by
    cases h with
    | cons _ h2 => exact DrA.get (i := i) h2 (by simpa using e)
theorem DrA.at : ∀ {ds : List D} {vs : List V} {i : Nat} {d : D}, DrA K O H vs ds → ds[i]? = some d → ∃ v, vs[i]? = some v ∧ Dr K O H v d
  | [], _, _, _, h, e => by simp at e
  | _ :: ds, _, 0, _, h, e => by
    cases h with
    | cons h1 _ => simp at e; subst e; exact ⟨_, rfl, h1⟩
  | _ :: ds, _, i + 1, _, h, e => by
    cases h with
    | cons _ h2 => exact DrA.at (i := i) h2 (by simpa using e)
theorem DrA.append : ∀ {ds es : List D} {vs ws : List V}, DrA K O H vs ds → DrA K O H ws es → DrA K O H (vs ++ ws) (ds ++ es)
  | [], _, _, _, h, g => by cases h; exact g
  | _ :: _, _, _, _, h, g => by
    cases h with
    | cons h1 h2 => exact .cons h1 (DrA.append h2 g)
theorem DrA.take : ∀ {ds : List D} {vs : List V} (n : Nat), DrA K O H vs ds → DrA K O H (vs.take n) (ds.take n)
  | [], _, n, h => by cases h; simp; exact .nil
  | _ :: _, _, 0, h => .nil
  | _ :: _, _, n + 1, h => by
    cases h with
    | cons h1 h2 => exact .cons h1 (DrA.take n h2)
theorem DrA.drop : ∀ {ds : List D} {vs : List V} (n : Nat), DrA K O H vs ds → DrA K O H (vs.drop n) (ds.drop n)
  | [], _, n, h => by cases h; simp; exact .nil
  | _ :: _, _, 0, h => h
  | _ :: _, _, n + 1, h => by
    cases h with
    | cons h1 h2 => exact DrA.drop n h2
theorem DrA.set : ∀ {ds : List D} {vs : List V} {v : V} {d : D} (i : Nat), DrA K O H vs ds → Dr K O H v d → DrA K O H (vs.set i v) (ds.set i d)
  | [], _, _, _, _, h, g => by cases h; exact .nil
  | _ :: _, _, _, _, 0, h, g => by
    cases h with
    | cons h1 h2 => exact .cons g h2
  | _ :: _, _, _, _, i + 1, h, g => by
    cases h with
    | cons h1 h2 => exact .cons h1 (DrA.set i h2 g)
theorem DrA.eraseIdx : ∀ {ds : List D} {vs : List V} (i : Nat), DrA K O H vs ds → DrA K O H (vs.eraseIdx i) (ds.eraseIdx i)
  | [], _, _, h => by cases h; exact .nil
  | _ :: _, _, 0, h => by
    cases h with
    | cons h1 h2 => exact h2
  | _ :: _, _, i + 1, h => by
    cases h with
    | cons h1 h2 => exact .cons h1 (DrA.eraseIdx i h2)
theorem DrA.ints : ∀ {ns : List Int} {vs : List V}, DrA K O H vs (ns.map PyData.int) → vs = ns.map V.int
  | [], _, h => by cases h; rfl
  | n :: ns, _, h => by
    cases h with
    | cons h1 h2 =>
      cases h1
      rw [DrA.ints h2]
      rfl
theorem DrA.bools : ∀ {ns : List Bool} {vs : List V}, DrA K O H vs (ns.map PyData.bool) → vs = ns.map V.bl
  | [], _, h => by cases h; rfl
  | n :: ns, _, h => by
    cases h with
    | cons h1 h2 =>
      cases h1
      rw [DrA.bools h2]
      rfl
theorem DrA.of_ints : ∀ {ns : List Int}, DrA K O H (ns.map V.int) (ns.map PyData.int)
  | [] => .nil
  | n :: ns => .cons (.int n) DrA.of_ints
theorem DrA.reverse : ∀ {ds : List D} {vs : List V}, DrA K O H vs ds → DrA K O H vs.reverse ds.reverse
  | [], _, h => by cases h; exact .nil
  | _ :: _, _, h => by
    cases h with
    | cons h1 h2 =>
      rw [List.reverse_cons, List.reverse_cons]
      exact DrA.append (DrA.reverse h2) (.cons h1 .nil)
end

/-! ### what a value of an expression is known by: data, or a list that the frame owns -/
def BDr (K : PySem.W.Frag) (N : Addr → Prop) (O : Addr → Prop) (H : Hp) (v : V) (d : D) : Prop :=
  Dr K O H v d ∨ ∃ a xs ds, v = .ref a ∧ d = .list ds ∧ ¬ N a ∧ H a = some (.lst xs) ∧ DrA K O H xs ds
section
variable {K : PySem.W.Frag} {N : Addr → Prop} {O O' : Addr → Prop} {H H' : Hp}
theorem BDr.lst {v : V} {ds : List D} (h : BDr K N O H v (.list ds)) : ∃ a xs, v = .ref a ∧ H a = some (.lst xs) ∧ DrA K O H xs ds := by
  rcases h with h | ⟨a, xs, ds', rfl, e, _, h1, h2⟩
  · cases h with
    | lst h1 h2 h3 => exact ⟨_, _, rfl, h1, h3⟩
  · cases e; exact ⟨_, _, rfl, h1, h2⟩
theorem BDr.tup {v : V} {ds : List D} (h : BDr K N O H v (.tuple ds)) : ∃ a xs, v = .ref a ∧ SqT K H a xs ∧ DrA K O H xs ds := by
  rcases h with h | ⟨a, xs, ds', rfl, e, _, h1, h2⟩
  · cases h with
    | tup h1 h3 => exact ⟨_, _, rfl, h1.sq, h3⟩
  · cases e
theorem BDr.int {v : V} {i : Int} (h : BDr K N O H v (.int i)) : v = .int i := by
  rcases h with h | ⟨a, xs, ds', rfl, e, _, h1, h2⟩
  · cases h; rfl
  · cases e
theorem BDr.bl {v : V} {i : Bool} (h : BDr K N O H v (.bool i)) : v = .bl i := by
  rcases h with h | ⟨a, xs, ds', rfl, e, _, h1, h2⟩
  · cases h; rfl
  · cases e
theorem BDr.str {v : V} {i : Str} (h : BDr K N O H v (.str i)) : v = .str i := by
  rcases h with h | ⟨a, xs, ds', rfl, e, _, h1, h2⟩
  · cases h; rfl
  · cases e
theorem BDr.non {v : V} (h : BDr K N O H v .none) : v = .non := by
  rcases h with h | ⟨a, xs, ds', rfl, e, _, h1, h2⟩
  · cases h; rfl
  · cases e
theorem BDr.dict {v : V} {kvs : List (D × D)} (h : BDr K N O H v (.dict kvs)) : False := by
  rcases h with h | ⟨a, xs, ds', rfl, e, _, h1, h2⟩
  · cases h
  · cases e
theorem BDr.of {v : V} {d : D} (h : Dr K O H v d) : BDr K N O H v d := .inl h
theorem BDr.dp {v : V} {d : D} (h : BDr K N O H v d) : Dp K H v d := by
  rcases h with h | ⟨a, xs, ds, rfl, rfl, _, h1, h2⟩
  · exact Dr.dp _ _ h
  · exact .lst (SqL.of h1) (DrA.dp _ _ h2)
theorem BDr.notNone {v : V} {d : D} (h : BDr K N O H v d) : (v = .non) ↔ (d = .none) := by
  constructor
  · rintro rfl
    rcases h with h | ⟨a, xs, ds, e, _⟩
    · cases h; rfl
    · cases e
  · rintro rfl
    exact h.non
end
end DL

set_option Elab.async false
set_option linter.all false
set_option maxRecDepth 100000
set_option maxHeartbeats 4000000
namespace DL
open PySem PySem.Spec PyProof.Rows L2

/-! ### what a step at values hands back -/
def Dom (O : Addr → Prop) (H : Hp) : Prop := ∀ a, O a → ∃ o, H a = some o
/-- a list that comes back is a new one -/
def Fr1 (K : PySem.W.Frag) (O : Addr → Prop) (H H' : Hp) (v : V) (r : D) : Prop :=
  ∀ ds, r = .list ds → ∃ p xs, v = .ref p ∧ H p = none ∧ H' p = some (.lst xs) ∧ DrA K (fun a => O a ∨ a = p) H' xs ds
def Ans (K : PySem.W.Frag) (O : Addr → Prop) (H : Hp) (Q : VK) (r : D) : Prop := ∀ v H', Same H H' → Dr K O H' v r → Q v H'
def AnsF (K : PySem.W.Frag) (O : Addr → Prop) (H : Hp) (Q : VK) (r : D) : Prop := ∀ v H', Same H H' → Dr K O H' v r → Fr1 K O H H' v r → Q v H'
theorem AnsF.of {K : PySem.W.Frag} {O : Addr → Prop} {H : Hp} {Q : VK} {r : D} (h : Ans K O H Q r) : AnsF K O H Q r := fun v H' s d _ => h v H' s d
section
variable {K : PySem.W.Frag} {N : Addr → Prop} {O : Addr → Prop} {H H' : Hp} {Q : VK}
theorem Dom.fresh (d : Dom O H) {p : Addr} (h : H p = none) : ¬ O p := fun o => by
  obtain ⟨x, e⟩ := d p o
  rw [h] at e; cases e
theorem same_upd {p : Addr} {o : HO} (h : H p = none) : Same H (upd H p o) := fun b x e => by
  rw [upd_ne (ne_of_none e h)]
  exact e
theorem Dr.same {v : V} {d : D} (h : Dr K O H v d) (s : Same H H') : Dr K O H' v d := Dr.stay (fun _ _ _ n => n) (fun b o _ e => s b o e) d v h
theorem DrA.same {vs : List V} {ds : List D} (h : DrA K O H vs ds) (s : Same H H') : DrA K O H' vs ds := DrA.stay (fun _ _ _ n => n) (fun b o _ e => s b o e) ds vs h
theorem BDr.same {v : V} {d : D} (h : BDr K N O H v d) (s : Same H H') : BDr K N O H' v d := by
  rcases h with h | ⟨a, xs, ds, rfl, rfl, n, h1, h2⟩
  · exact .inl (h.same s)
  · exact .inr ⟨a, xs, ds, rfl, rfl, n, s _ _ h1, h2.same s⟩
/-- data that stand do not reach a new place -/
theorem DrA.more {vs : List V} {ds : List D} {p : Addr} (h : DrA K O H vs ds) (hp : H p = none) : DrA K (fun a => O a ∨ a = p) H vs ds :=
  DrA.stay (fun a o e n q => by
    rcases q with q | q
    · exact n q
    · rw [q, hp] at e; cases e) (fun _ _ _ e => e) ds vs h
theorem Dr.more {v : V} {d : D} {p : Addr} (h : Dr K O H v d) (hp : H p = none) : Dr K (fun a => O a ∨ a = p) H v d :=
  Dr.stay (fun a o e n q => by
    rcases q with q | q
    · exact n q
    · rw [q, hp] at e; cases e) (fun _ _ _ e => e) d v h
theorem Fr1.no {v : V} {r : D} (h : ∀ ds, r ≠ .list ds) : Fr1 K O H H' v r := fun ds e => absurd e (h ds)
theorem AnsF.int {i : Int} (q : AnsF K O H Q (.int i)) : Q (.int i) H := q _ _ (Same.refl H) (.int i) (.no fun _ => nofun)
theorem AnsF.bl {i : Bool} (q : AnsF K O H Q (.bool i)) : Q (.bl i) H := q _ _ (Same.refl H) (.bl i) (.no fun _ => nofun)
theorem AnsF.str {i : Str} (q : AnsF K O H Q (.str i)) : Q (.str i) H := q _ _ (Same.refl H) (.str i) (.no fun _ => nofun)
theorem AnsF.non (q : AnsF K O H Q .none) : Q .non H := q _ _ (Same.refl H) .non (.no fun _ => nofun)
theorem AnsF.same {r : D} {v : V} (q : AnsF K O H Q r) (h : Dr K O H v r) (n : ∀ ds, r ≠ .list ds) : Q v H := q _ _ (Same.refl H) h (.no n)
theorem AnsF.lst {ds : List D} {xs : List V} (q : AnsF K O H Q (.list ds)) (dm : Dom O H) (h : DrA K O H xs ds) : ∀ p, H p = none → Q (.ref p) (upd H p (.lst xs)) := fun p np =>
  q _ _ (same_upd np) (.lst upd_same (dm.fresh np) (h.same (same_upd np))) fun ds' e => by
    cases e
    exact ⟨p, xs, rfl, np, upd_same, (h.more np).same (same_upd np)⟩
theorem AnsF.tup {ds : List D} {xs : List V} (q : AnsF K O H Q (.tuple ds)) (dm : Dom O H) (h : DrA K O H xs ds) : ∀ p, H p = none → Q (.ref p) (upd H p (.tup xs)) := fun p np =>
  q _ _ (same_upd np) (.tup (.inl ⟨upd_same, dm.fresh np⟩) (h.same (same_upd np))) (.no fun _ => nofun)
end
theorem BDr.tupDr {K : PySem.W.Frag} {N : Addr → Prop} {O : Addr → Prop} {H : Hp} {v : V} {ds : List D} (h : BDr K N O H v (.tuple ds)) : Dr K O H v (.tuple ds) := by
  rcases h with z | ⟨_, _, _, _, e, _⟩
  · exact z
  · cases e
/-! ### the operators, over data -/
def dMulOk (i j : Int) : Prop := i.natAbs.log2 + j.natAbs.log2 < 1000000
def dDivOk (j : Int) : Prop := j ≠ 0 ∧ j.natAbs.log2 < 9000
def repD (k : Int) (ds : List D) : List D := (List.replicate k.toNat ds).flatten
def dAdd : D → D → (D → Prop) → Prop
  | .int i, .int j, Q => Q (.int (i + j))
  | .list a, .list b, Q => a.length + b.length ≤ sizeLine ∧ Q (.list (a ++ b))
  | .tuple a, .tuple b, Q => a.length + b.length ≤ sizeLine ∧ Q (.tuple (a ++ b))
  | .str a, .str b, Q => a.length + b.length ≤ sizeLine ∧ Q (.str (a ++ b))
  | _, _, _ => False
def dSub : D → D → (D → Prop) → Prop
  | .int i, .int j, Q => Q (.int (i - j))
  | .bool p, .bool q, Q => Q (.int (PyProof.Rows.b2i p - PyProof.Rows.b2i q))
  | _, _, _ => False
def dMul : D → D → (D → Prop) → Prop
  | .int i, .int j, Q => dMulOk i j ∧ Q (.int (i * j))
  | .list a, .int k, Q => -(2 ^ 63) ≤ k ∧ k < 2 ^ 63 ∧ a.length * k.toNat ≤ sizeLine ∧ Q (.list (repD k a))
  | .tuple a, .int k, Q => a ≠ [] ∧ 2 ≤ k ∧ k ≤ 1000 ∧ a.length ≤ 1000 ∧ Q (.tuple (repD k a))
  | _, _, _ => False
def dMod : D → D → (D → Prop) → Prop
  | .int i, .int j, Q => j ≠ 0 ∧ Q (.int (i.fmod j))
  | _, _, _ => False
def dDiv : D → D → (D → Prop) → Prop
  | .int i, .int j, Q => dDivOk j ∧ Q (.int (i.fdiv j))
  | _, _, _ => False
def R2D (K : PySem.W.Frag) (f : D → D → (D → Prop) → Prop) : R2 := fun x y H Q => ∃ N O d e, Dom O H ∧ BDr K N O H x d ∧ BDr K N O H y e ∧ ∃ P, f d e P ∧ ∀ r, P r → AnsF K O H Q r
section
variable {X : Cx}
theorem DrA.rep {K : PySem.W.Frag} {O : Addr → Prop} {H : Hp} {xs : List V} {ds : List D} (h : DrA K O H xs ds) : ∀ k : Nat, DrA K O H (List.replicate k xs).flatten (List.replicate k ds).flatten
  | 0 => .nil
  | k + 1 => by
    rw [List.replicate_succ, List.replicate_succ, List.flatten_cons, List.flatten_cons]
    exact h.append (DrA.rep h k)
theorem op_dAdd : OpR X (binaryOp .Add) (R2D X.K dAdd) := by
  intro pins s σ H x y v u Q I rx ry h
  obtain ⟨N, O, d, e, dm, hx, hy, P, q, hP⟩ := h
  unfold dAdd at q
  split at q
  · rw [hx.int] at rx; rw [hy.int] at ry
    exact op_add pins s σ H _ _ v u Q I rx ry ⟨_, _, rfl, rfl, (hP _ q).int⟩
  · obtain ⟨a, xs, rfl, h1, h2⟩ := hx.lst
    obtain ⟨b, ys, rfl, h3, h4⟩ := hy.lst
    exact op_cat pins s σ H _ _ v u Q I rx ry ⟨a, b, xs, ys, rfl, rfl, h1, h3, by rw [h2.length, h4.length]; exact q.1, (hP _ q.2).lst dm (h2.append h4)⟩
  · obtain ⟨a, xs, rfl, h1, h2⟩ := hx.tup
    obtain ⟨b, ys, rfl, h3, h4⟩ := hy.tup
    have hxa := hx.tupDr
    have hyb := hy.tupDr
    refine op_catA pins s σ H _ _ v u Q I rx ry ⟨a, b, xs, ys, rfl, rfl, h1, h3, by rw [h2.length, h4.length]; exact q.1, fun e => ?_, fun _ e => ?_, fun _ _ => (hP _ q.2).tup dm (h2.append h4)⟩
    · subst e
      have e2 := h2.length
      have e3 := List.eq_nil_of_length_eq_zero e2.symm
      subst e3
      exact (hP _ q.2).same hyb fun _ => nofun
    · subst e
      have e2 := h4.length
      have e3 := List.eq_nil_of_length_eq_zero e2.symm
      subst e3
      rw [List.append_nil] at q
      exact (hP _ q.2).same hxa fun _ => nofun
  · rw [hx.str] at rx; rw [hy.str] at ry
    exact op_add_str pins s σ H _ _ v u Q I rx ry ⟨_, _, rfl, rfl, q.1, (hP _ q.2).str⟩
  · exact q.elim
theorem op_dSub : OpR X (binaryOp .Sub) (R2D X.K dSub) := by
  intro pins s σ H x y v u Q I rx ry h
  obtain ⟨N, O, d, e, dm, hx, hy, P, q, hP⟩ := h
  unfold dSub at q
  split at q
  · rw [hx.int] at rx; rw [hy.int] at ry
    exact op_sub pins s σ H _ _ v u Q I rx ry ⟨_, _, rfl, rfl, (hP _ q).int⟩
  · rw [hx.bl] at rx; rw [hy.bl] at ry
    cases rx
    cases ry
    exact PyProof.Rows.sub_bool ⟨.int _, H, I.tok _, ⟨_, rfl⟩, (hP _ q).int⟩
  · exact q.elim
theorem op_dMul : OpR X (binaryOp .Mult) (R2D X.K dMul) := by
  intro pins s σ H x y v u Q I rx ry h
  obtain ⟨N, O, d, e, dm, hx, hy, P, q, hP⟩ := h
  unfold dMul at q
  split at q
  · rw [hx.int] at rx; rw [hy.int] at ry
    exact op_mulW pins s σ H _ _ v u Q I rx ry ⟨_, _, rfl, rfl, q.1, (hP _ q.2).int⟩
  · obtain ⟨a, xs, rfl, h1, h2⟩ := hx.lst
    rw [hy.int] at ry
    exact op_rep pins s σ H _ _ v u Q I rx ry ⟨a, _, xs, rfl, rfl, h1, q.1, q.2.1, by rw [h2.length]; exact q.2.2.1, (hP _ q.2.2.2).lst dm (h2.rep _)⟩
  · obtain ⟨a, xs, rfl, h1, h2⟩ := hx.tup
    rw [hy.int] at ry
    have hne : xs ≠ [] := fun z => q.1 (by
      rw [z] at h2
      exact List.eq_nil_of_length_eq_zero h2.length.symm)
    exact op_repT pins s σ H _ _ v u Q I rx ry ⟨a, _, xs, rfl, rfl, h1, hne, q.2.1, q.2.2.1, by rw [h2.length]; exact q.2.2.2.1, (hP _ q.2.2.2.2).tup dm (h2.rep _)⟩
  · exact q.elim
theorem op_dMod : OpR X (binaryOp .Mod) (R2D X.K dMod) := by
  intro pins s σ H x y v u Q I rx ry h
  obtain ⟨N, O, d, e, dm, hx, hy, P, q, hP⟩ := h
  unfold dMod at q
  split at q
  · rw [hx.int] at rx; rw [hy.int] at ry
    exact op_modN pins s σ H _ _ v u Q I rx ry ⟨_, _, rfl, rfl, q.1, (hP _ q.2).int⟩
  · exact q.elim
theorem op_fdivA : OpR X (binaryOp .FloorDiv) (rI (fun _ j => dDivOk j) fun i j => .int (i.fdiv j)) :=
  opI fun _ _ _ _ _ _ _ hc q => floordiv_int hc.1 q (.inl (PyProof.noPylong_of_log2 hc.2))
theorem op_dDiv : OpR X (binaryOp .FloorDiv) (R2D X.K dDiv) := by
  intro pins s σ H x y v u Q I rx ry h
  obtain ⟨N, O, d, e, dm, hx, hy, P, q, hP⟩ := h
  unfold dDiv at q
  split at q
  · rw [hx.int] at rx; rw [hy.int] at ry
    exact op_fdivA pins s σ H _ _ v u Q I rx ry ⟨_, _, rfl, rfl, q.1, (hP _ q.2).int⟩
  · exact q.elim
/-! comparisons -/
def shp (d : D) : Prop := SeqAt.shaped d = true
def dEq (d e : D) (Q : D → Prop) : Prop := shp d ∧ shp e ∧ Q (.bool (PyData.eqv d e))
def dNe (d e : D) (Q : D → Prop) : Prop := shp d ∧ shp e ∧ Q (.bool (!PyData.eqv d e))
def dLt : D → D → (D → Prop) → Prop
  | .int i, .int j, Q => Q (.bool (decide (i < j)))
  | _, _, _ => False
def dLe : D → D → (D → Prop) → Prop
  | .int i, .int j, Q => Q (.bool (decide (i ≤ j)))
  | _, _, _ => False
def dGt : D → D → (D → Prop) → Prop
  | .int i, .int j, Q => Q (.bool (decide (j < i)))
  | _, _, _ => False
def dGe : D → D → (D → Prop) → Prop
  | .int i, .int j, Q => Q (.bool (decide (j ≤ i)))
  | _, _, _ => False
def isNone : D → Bool
  | .none => true
  | _ => false
def dIs : D → D → (D → Prop) → Prop
  | d, .none, Q => Q (.bool (isNone d))
  | _, _, _ => False
def dIsnt : D → D → (D → Prop) → Prop
  | d, .none, Q => Q (.bool (!isNone d))
  | _, _, _ => False
theorem isNone_of {K : PySem.W.Frag} {N : Addr → Prop} {O : Addr → Prop} {H : Hp} {v : V} {d : D} (h : BDr K N O H v d) : decide (v = .non) = isNone d := by
  rcases h with h | ⟨a, xs, ds, rfl, rfl, _, h1, h2⟩
  · cases h <;> simp [isNone]
  · simp [isNone]
theorem op_dEq (hu : X.A.units + 64 < cLine) : OpR X (compareOp .Eq) (R2D X.K dEq) := by
  intro pins s σ H x y v u Q I rx ry h
  obtain ⟨N, O, d, e, dm, hx, hy, P, q, hP⟩ := h
  exact op_eqD hu pins s σ H _ _ v u Q I rx ry ⟨d, e, hx.dp, hy.dp, q.1, q.2.1, (hP _ q.2.2).bl⟩
theorem op_dNe (hu : X.A.units + 64 < cLine) : OpR X (compareOp .NotEq) (R2D X.K dNe) := by
  intro pins s σ H x y v u Q I rx ry h
  obtain ⟨N, O, d, e, dm, hx, hy, P, q, hP⟩ := h
  exact op_neD hu pins s σ H _ _ v u Q I rx ry ⟨d, e, hx.dp, hy.dp, q.1, q.2.1, (hP _ q.2.2).bl⟩
theorem op_dLt : OpR X (compareOp .Lt) (R2D X.K dLt) := by
  intro pins s σ H x y v u Q I rx ry h
  obtain ⟨N, O, d, e, dm, hx, hy, P, q, hP⟩ := h
  unfold dLt at q
  split at q
  · rw [hx.int] at rx; rw [hy.int] at ry
    exact op_lt pins s σ H _ _ v u Q I rx ry ⟨_, _, rfl, rfl, (hP _ q).bl⟩
  · exact q.elim
theorem op_dLe : OpR X (compareOp .LtE) (R2D X.K dLe) := by
  intro pins s σ H x y v u Q I rx ry h
  obtain ⟨N, O, d, e, dm, hx, hy, P, q, hP⟩ := h
  unfold dLe at q
  split at q
  · rw [hx.int] at rx; rw [hy.int] at ry
    exact op_le pins s σ H _ _ v u Q I rx ry ⟨_, _, rfl, rfl, (hP _ q).bl⟩
  · exact q.elim
theorem op_dGt : OpR X (compareOp .Gt) (R2D X.K dGt) := by
  intro pins s σ H x y v u Q I rx ry h
  obtain ⟨N, O, d, e, dm, hx, hy, P, q, hP⟩ := h
  unfold dGt at q
  split at q
  · rw [hx.int] at rx; rw [hy.int] at ry
    exact op_gt pins s σ H _ _ v u Q I rx ry ⟨_, _, rfl, rfl, (hP _ q).bl⟩
  · exact q.elim
theorem op_dGe : OpR X (compareOp .GtE) (R2D X.K dGe) := by
  intro pins s σ H x y v u Q I rx ry h
  obtain ⟨N, O, d, e, dm, hx, hy, P, q, hP⟩ := h
  unfold dGe at q
  split at q
  · rw [hx.int] at rx; rw [hy.int] at ry
    exact op_ge pins s σ H _ _ v u Q I rx ry ⟨_, _, rfl, rfl, (hP _ q).bl⟩
  · exact q.elim
theorem op_dIs : OpR X (compareOp .Is) (R2D X.K dIs) := by
  intro pins s σ H x y v u Q I rx ry h
  obtain ⟨N, O, d, e, dm, hx, hy, P, q, hP⟩ := h
  unfold dIs at q
  split at q
  · exact op_isN pins s σ H _ _ v u Q I rx ry ⟨hy.non, by rw [isNone_of hx]; exact (hP _ q).bl⟩
  · exact q.elim
theorem op_dIsnt : OpR X (compareOp .IsNot) (R2D X.K dIsnt) := by
  intro pins s σ H x y v u Q I rx ry h
  obtain ⟨N, O, d, e, dm, hx, hy, P, q, hP⟩ := h
  unfold dIsnt at q
  split at q
  · exact op_notN pins s σ H _ _ v u Q I rx ry ⟨hy.non, by rw [isNone_of hx]; exact (hP _ q).bl⟩
  · exact q.elim
end
end DL

set_option Elab.async false
set_option linter.all false
set_option maxRecDepth 100000
set_option maxHeartbeats 4000000
namespace DL
open PySem PySem.Spec PyProof.Rows L2

/-! ### built-in functions, over data -/
abbrev BDrA (K : PySem.W.Frag) (N : Addr → Prop) (O : Addr → Prop) (H : Hp) : List V → List D → Prop := Paired (BDr K N O H)
abbrev FD := List D → (D → Prop) → Prop
def RCD (K : PySem.W.Frag) (f : FD) : List V → Hp → VK → Prop := fun vs H Q => ∃ N O ds, Dom O H ∧ BDrA K N O H vs ds ∧ ∃ P, f ds P ∧ ∀ r, P r → AnsF K O H Q r
def intsOf : List D → Option (List Int)
  | [] => some []
  | .int i :: r => (intsOf r).map (i :: ·)
  | _ => none
def boolsOf : List D → Option (List Bool)
  | [] => some []
  | .bool i :: r => (boolsOf r).map (i :: ·)
  | _ => none
theorem intsOf_eq : ∀ {ds : List D} {ns : List Int}, intsOf ds = some ns → ds = ns.map PyData.int
  | [], ns, h => by simp [intsOf] at h; subst h; rfl
  | d :: r, ns, h => by
    cases d with
    | int i =>
      simp only [intsOf, Option.map_eq_some_iff] at h
      obtain ⟨m, h1, rfl⟩ := h
      rw [intsOf_eq h1]; rfl
    | _ => simp [intsOf] at h
theorem boolsOf_eq : ∀ {ds : List D} {ns : List Bool}, boolsOf ds = some ns → ds = ns.map PyData.bool
  | [], ns, h => by simp [boolsOf] at h; subst h; rfl
  | d :: r, ns, h => by
    cases d with
    | bool i =>
      simp only [boolsOf, Option.map_eq_some_iff] at h
      obtain ⟨m, h1, rfl⟩ := h
      rw [boolsOf_eq h1]; rfl
    | _ => simp [boolsOf] at h
@[simp] theorem intsOf_map : ∀ ns : List Int, intsOf (ns.map PyData.int) = some ns
  | [] => rfl
  | n :: r => by simp [intsOf, intsOf_map r]
@[simp] theorem boolsOf_map : ∀ ns : List Bool, boolsOf (ns.map PyData.bool) = some ns
  | [] => rfl
  | n :: r => by simp [boolsOf, boolsOf_map r]
def optQ {α : Type} (o : Option α) (Q : α → Prop) : Prop := match o with
  | some a => Q a
  | none => False
theorem optQ_iff {α : Type} {o : Option α} {Q : α → Prop} (h : optQ o Q) : ∃ a, o = some a ∧ Q a := by
  cases o with
  | none => exact h.elim
  | some a => exact ⟨a, rfl, h⟩
def dLen : FD
  | [.list ds], Q => Q (.int ds.length)
  | [.tuple ds], Q => Q (.int ds.length)
  | [.str z], Q => z.length ≤ sizeLine ∧ Q (.int z.length)
  | _, _ => False
def dTuple : FD
  | [.list ds], Q => Q (.tuple ds)
  | [.tuple ds], Q => Q (.tuple ds)
  | _, _ => False
def dList : FD
  | [.list ds], Q => Q (.list ds)
  | [.tuple ds], Q => Q (.list ds)
  | _, _ => False
def dSum : FD
  | [.list ds], Q => optQ (intsOf ds) fun ns => Q (.int ns.sum)
  | _, _ => False
def dAny : FD
  | [.list ds], Q => optQ (boolsOf ds) fun ns => Q (.bool (ns.any id))
  | _, _ => False
def dAll : FD
  | [.list ds], Q => optQ (boolsOf ds) fun ns => Q (.bool (ns.all id))
  | _, _ => False
def dAbs : FD
  | [.int i], Q => Q (.int i.natAbs)
  | _, _ => False
def dMin2 : FD
  | [.int i, .int j], Q => Q (.int (if j < i then j else i))
  | _, _ => False
def dMax2 : FD
  | [.int i, .int j], Q => Q (.int (if j > i then j else i))
  | _, _ => False
def dInt : FD
  | [.int i], Q => Q (.int i)
  | [.bool b], Q => Q (.int (if b then 1 else 0))
  | _, _ => False
def dGcd : FD
  | [.int i, .int j], Q => Q (.int (Nat.gcd i.natAbs j.natAbs : Nat))
  | _, _ => False
def dStr : FD
  | [.int i], Q => i.natAbs.log2 < 1920 ∧ Q (.str (toString i))
  | _, _ => False
abbrev ltD : D → D → Bool := PySem.W.dataLe false id
def sortD (ds : List D) : List D := ds.mergeSort ltD
def sortOk (ds : List D) : Prop := PySem.W.AllAlike ds ∧ PySem.W.Sortable ds ∧ ds.length ≤ sizeLine ∧ ∀ d ∈ ds, d.depth ≤ 64
def dSorted : FD
  | [.list ds], Q => sortOk ds ∧ Q (.list (sortD ds))
  | _, _ => False
section
variable {X : Cx}
theorem Paired.one {α β : Type} {F : α → β → Prop} {xs : List α} {b : β} (h : Paired F xs [b]) : ∃ a, xs = [a] ∧ F a b := by
  cases h with
  | cons h1 h2 => cases h2; exact ⟨_, rfl, h1⟩
theorem Paired.two {α β : Type} {F : α → β → Prop} {xs : List α} {b c : β} (h : Paired F xs [b, c]) : ∃ a a', xs = [a, a'] ∧ F a b ∧ F a' c := by
  cases h with
  | cons h1 h2 =>
    obtain ⟨a', rfl, h3⟩ := Paired.one h2
    exact ⟨_, a', rfl, h1, h3⟩
theorem cr_dLen : CallR X (.builtin "len") (RCD X.K dLen) := by
  intro pins s σ H vs us Q I r h
  obtain ⟨N, O, ds, dm, hv, P, q, hP⟩ := h
  unfold dLen at q
  split at q
  · obtain ⟨v, rfl, h1⟩ := Paired.one hv
    obtain ⟨a, xs, rfl, h2, h3⟩ := h1.lst
    exact call_len_seq pins s σ H _ us Q I r ⟨a, xs, rfl, .inl (SqL.of h2), by rw [h3.length]; exact (hP _ q).int⟩
  · obtain ⟨v, rfl, h1⟩ := Paired.one hv
    obtain ⟨a, xs, rfl, h2, h3⟩ := h1.tup
    exact call_len_seq pins s σ H _ us Q I r ⟨a, xs, rfl, .inr h2, by rw [h3.length]; exact (hP _ q).int⟩
  · obtain ⟨v, rfl, h1⟩ := Paired.one hv
    rw [h1.str] at r
    exact call_len_str pins s σ H _ us Q I r ⟨_, rfl, q.1, (hP _ q.2).int⟩
  · exact q.elim
theorem cr_dTuple : CallR X (.type "tuple") (RCD X.K dTuple) := by
  intro pins s σ H vs us Q I r h
  obtain ⟨N, O, ds, dm, hv, P, q, hP⟩ := h
  unfold dTuple at q
  split at q
  · obtain ⟨v, rfl, h1⟩ := Paired.one hv
    obtain ⟨a, xs, rfl, h2, h3⟩ := h1.lst
    exact call_tuple_of pins s σ H _ us Q I r ⟨a, xs, rfl, .inl ⟨SqL.of h2, (hP _ q).tup dm h3⟩⟩
  · obtain ⟨v, rfl, h1⟩ := Paired.one hv
    have hd := h1.tupDr
    obtain ⟨a, xs, rfl, h2, h3⟩ := h1.tup
    exact call_tuple_of pins s σ H _ us Q I r ⟨a, xs, rfl, .inr ⟨h2, (hP _ q).same hd fun _ => nofun⟩⟩
  · exact q.elim
theorem cr_dList : CallR X (.type "list") (RCD X.K dList) := by
  intro pins s σ H vs us Q I r h
  obtain ⟨N, O, ds, dm, hv, P, q, hP⟩ := h
  unfold dList at q
  split at q
  · obtain ⟨v, rfl, h1⟩ := Paired.one hv
    obtain ⟨a, xs, rfl, h2, h3⟩ := h1.lst
    exact call_list_of pins s σ H _ us Q I r ⟨a, xs, rfl, .inl (SqL.of h2), (hP _ q).lst dm h3⟩
  · obtain ⟨v, rfl, h1⟩ := Paired.one hv
    obtain ⟨a, xs, rfl, h2, h3⟩ := h1.tup
    exact call_list_of pins s σ H _ us Q I r ⟨a, xs, rfl, .inr h2, (hP _ q).lst dm h3⟩
  · exact q.elim
theorem cr_dSum (hc : X.calm = true) : CallR X (.builtin "sum") (RCD X.K dSum) := by
  intro pins s σ H vs us Q I r h
  obtain ⟨N, O, ds, dm, hv, P, q, hP⟩ := h
  unfold dSum at q
  split at q
  · obtain ⟨ns, e, q⟩ := optQ_iff q
    obtain ⟨v, rfl, h1⟩ := Paired.one hv
    obtain ⟨a, xs, rfl, h2, h3⟩ := h1.lst
    rw [intsOf_eq e] at h3
    rw [h3.ints] at h2
    exact cr_sum hc pins s σ H _ us Q I r ⟨a, ns, rfl, SqL.of h2, (hP _ q).int⟩
  · exact q.elim
theorem cr_dAny (hc : X.calm = true) : CallR X (.builtin "any") (RCD X.K dAny) := by
  intro pins s σ H vs us Q I r h
  obtain ⟨N, O, ds, dm, hv, P, q, hP⟩ := h
  unfold dAny at q
  split at q
  · obtain ⟨ns, e, q⟩ := optQ_iff q
    obtain ⟨v, rfl, h1⟩ := Paired.one hv
    obtain ⟨a, xs, rfl, h2, h3⟩ := h1.lst
    rw [boolsOf_eq e] at h3
    rw [h3.bools] at h2
    exact cr_any hc pins s σ H _ us Q I r ⟨a, ns, rfl, SqL.of h2, (hP _ q).bl⟩
  · exact q.elim
theorem cr_dAll (hc : X.calm = true) : CallR X (.builtin "all") (RCD X.K dAll) := by
  intro pins s σ H vs us Q I r h
  obtain ⟨N, O, ds, dm, hv, P, q, hP⟩ := h
  unfold dAll at q
  split at q
  · obtain ⟨ns, e, q⟩ := optQ_iff q
    obtain ⟨v, rfl, h1⟩ := Paired.one hv
    obtain ⟨a, xs, rfl, h2, h3⟩ := h1.lst
    rw [boolsOf_eq e] at h3
    rw [h3.bools] at h2
    exact cr_all hc pins s σ H _ us Q I r ⟨a, ns, rfl, SqL.of h2, (hP _ q).bl⟩
  · exact q.elim
theorem cr_dAbs : CallR X (.builtin "abs") (RCD X.K dAbs) := by
  intro pins s σ H vs us Q I r h
  obtain ⟨N, O, ds, dm, hv, P, q, hP⟩ := h
  unfold dAbs at q
  split at q
  · rename_i i
    obtain ⟨v, rfl, h1⟩ := Paired.one hv
    rw [h1.int] at r
    refine call_abs pins s σ H _ us Q I r ⟨_, rfl, ?_⟩
    have e : ∀ i : Int, (if i < 0 then -i else i) = (i.natAbs : Int) := fun i => by split <;> omega
    rw [e]
    exact (hP _ q).int
  · exact q.elim
theorem cr_dMin2 (hc : X.calm = true) : CallR X (.builtin "min") (RCD X.K dMin2) := by
  intro pins s σ H vs us Q I r h
  obtain ⟨N, O, ds, dm, hv, P, q, hP⟩ := h
  unfold dMin2 at q
  split at q
  · obtain ⟨v, v', rfl, h1, h2⟩ := Paired.two hv
    rw [h1.int, h2.int] at r
    exact call_min2 hc pins s σ H _ us Q I r ⟨_, _, rfl, (hP _ q).int⟩
  · exact q.elim
theorem cr_dMax2 (hc : X.calm = true) : CallR X (.builtin "max") (RCD X.K dMax2) := by
  intro pins s σ H vs us Q I r h
  obtain ⟨N, O, ds, dm, hv, P, q, hP⟩ := h
  unfold dMax2 at q
  split at q
  · obtain ⟨v, v', rfl, h1, h2⟩ := Paired.two hv
    rw [h1.int, h2.int] at r
    exact call_max2 hc pins s σ H _ us Q I r ⟨_, _, rfl, (hP _ q).int⟩
  · exact q.elim
theorem cr_dInt : CallR X (.type "int") (RCD X.K dInt) := by
  intro pins s σ H vs us Q I r h
  obtain ⟨N, O, ds, dm, hv, P, q, hP⟩ := h
  unfold dInt at q
  split at q
  · obtain ⟨v, rfl, h1⟩ := Paired.one hv
    rw [h1.int] at r
    exact call_int1 pins s σ H _ us Q I r (.inl ⟨_, rfl, (hP _ q).int⟩)
  · obtain ⟨v, rfl, h1⟩ := Paired.one hv
    rw [h1.bl] at r
    exact call_int1 pins s σ H _ us Q I r (.inr ⟨_, rfl, (hP _ q).int⟩)
  · exact q.elim
theorem cr_dStr : CallR X (.type "str") (RCD X.K dStr) := by
  intro pins s σ H vs us Q I r h
  obtain ⟨N, O, ds, dm, hv, P, q, hP⟩ := h
  unfold dStr at q
  split at q
  · obtain ⟨v, rfl, h1⟩ := Paired.one hv
    rw [h1.int] at r
    exact call_str_int pins s σ H _ us Q I r ⟨_, rfl, q.1, (hP _ q.2).str⟩
  · exact q.elim
theorem cr_dGcd : CallR X (.builtin "math.gcd") (RCD X.K dGcd) := by
  intro pins s σ H vs us Q I r h
  obtain ⟨N, O, ds, dm, hv, P, q, hP⟩ := h
  unfold dGcd at q
  split at q
  · obtain ⟨v, v', rfl, h1, h2⟩ := Paired.two hv
    rw [h1.int, h2.int] at r
    exact cr_gcd pins s σ H _ us Q I r ⟨_, _, rfl, (hP _ q).int⟩
  · exact q.elim
theorem DrA.zip {K : PySem.W.Frag} {O : Addr → Prop} {H : Hp} : ∀ {xs : List V} {ds : List D}, DrA K O H xs ds → ∀ p ∈ xs.zip ds, Dr K O H p.1 p.2
  | _, [], h, p, hp => by cases h; simp at hp
  | _, _ :: _, h, p, hp => by
    cases h with
    | cons h1 h2 =>
      rw [List.zip_cons_cons] at hp
      rcases List.mem_cons.mp hp with rfl | hp
      · exact h1
      · exact DrA.zip h2 p hp
theorem DrA.of_pairs {K : PySem.W.Frag} {O : Addr → Prop} {H : Hp} : ∀ {ps : List (V × D)}, (∀ p ∈ ps, Dr K O H p.1 p.2) → DrA K O H (ps.map Prod.fst) (ps.map Prod.snd)
  | [], _ => .nil
  | p :: ps, h => .cons (h p List.mem_cons_self) (DrA.of_pairs fun q hq => h q (List.mem_cons_of_mem _ hq))
theorem each_vals {vs : List V} {us : List Value} (r : Vals vs us) : ∀ {ds : List D}, vs.length = ds.length → PySem.W.EachIs (fun (u : Value) (p : V × D) => RelV p.1 u) us (vs.zip ds) := by
  induction r with
  | nil => intro ds _; simp; exact .nil
  | cons r1 _ ih =>
    intro ds hl
    cases ds with
    | nil => simp at hl
    | cons d ds =>
      rw [List.zip_cons_cons]
      exact .cons r1 (ih (by simpa using hl))
theorem each_reads {pins : List (Addr × Obj)} {σ : L2.St} {H : Hp} {s : Shared} (I : Inv X pins σ H s) : ∀ {vs : List V} {us : List Value} {ds : List D}, Vals vs us → DpAll X.K H vs ds →
    PySem.W.EachIs (fun (u : Value) (p : V × D) => ∃ as, PySem.Reads s.heap u p.2 as) us (vs.zip ds)
  | _, _, [], r, h => by cases h; cases r; exact .nil
  | _, _, _ :: _, r, h => by
    cases h with
    | cons h1 h2 =>
      cases r with
      | cons r1 r2 =>
        rw [List.zip_cons_cons]
        exact .cons (Dp.reads I _ _ _ h1 r1) (each_reads I r2 h2)
theorem vals_each {us : List Value} {ps : List (V × D)} (h : PySem.W.EachIs (fun (u : Value) (p : V × D) => RelV p.1 u) us ps) : Vals (ps.map Prod.fst) us := by
  induction h with
  | nil => exact .nil
  | cons h1 _ ih => exact .cons h1 ih
theorem zip_map_snd : ∀ {vs : List V} {ds : List D}, vs.length = ds.length → (vs.zip ds).map Prod.snd = ds
  | [], [], _ => rfl
  | [], _ :: _, h => by simp at h
  | _ :: _, [], h => by simp at h
  | v :: vs, d :: ds, h => by rw [List.zip_cons_cons, List.map_cons, zip_map_snd (by simpa using h)]
theorem cr_dSorted (hu : X.A.units + 66 < cLine) : CallR X (.builtin "sorted") (RCD X.K dSorted) := by
  intro pins s σ H vs us Q I r h
  obtain ⟨N, O, ds, dm, hv, P, q, hP⟩ := h
  unfold dSorted at q
  split at q
  · rename_i l
    obtain ⟨⟨ok1, ok2, ok3, ok4⟩, q⟩ := q
    obtain ⟨v, rfl, h1⟩ := Paired.one hv
    obtain ⟨a, xs, rfl, h2, h3⟩ := h1.lst
    rw [Vals.ref1 r]
    obtain ⟨its, rv, pl, hz⟩ := I.list (SqL.of h2)
    have hl : xs.length = l.length := h3.length
    have er := each_reads I rv (DrA.dp _ _ h3)
    have ev := each_vals rv hl
    have em : (xs.zip l).map (fun p => p.2) = l := zip_map_snd hl
    refine PySem.W.sorted_data (β := V × D) (bs := xs.zip l) (enc := Prod.snd) pl.isList ev er (by rw [show (xs.zip l).map Prod.snd = l from em]; exact ok1) (by rw [show (xs.zip l).map Prod.snd = l from em]; exact ok2)
      (by rw [List.length_zip]; omega) (fun b hb => ?_) fun out ho eo => ?_
    · have hb2 : b.2 ∈ l := by
        rw [← show (xs.zip l).map Prod.snd = l from em]
        exact List.mem_map_of_mem hb
      have := ok4 b.2 hb2
      omega
    · obtain ⟨ep, he'⟩ := PyProof.Rows.sortedAll_at s.heap its out.toArray
      have eD : ((xs.zip l).mergeSort (PySem.W.dataLe false Prod.snd)).map Prod.snd = sortD l := by
        have e0 := PySem.W.sort_maps (r := PySem.W.dataLe false Prod.snd) (s := ltD) (l := xs.zip l) (Prod.snd : V × D → D) fun a _ b _ => rfl
        rw [e0, show (xs.zip l).map Prod.snd = l from em]
        rfl
      have hlen : (((xs.zip l).mergeSort (PySem.W.dataLe false Prod.snd)).map Prod.fst).length ≤ sizeLine := by
        rw [List.length_map, List.length_mergeSort, List.length_zip]
        omega
      have hA : DrA X.K O H (((xs.zip l).mergeSort (PySem.W.dataLe false Prod.snd)).map Prod.fst) (sortD l) := by
        rw [← eD]
        exact DrA.of_pairs fun p hp => h3.zip p (List.mem_mergeSort.mp hp)
      exact ⟨.ref _, upd H (s.heap.objs.size + 1) (.lst _), I.laid (t' := s.toks) (fun _ _ => PyProof.Rows.sortedAll_old) (Nat.le_succ _) ⟨hlen, out, ep, vals_each eo, he'⟩, rfl, (hP _ q).lst dm hA _ (I.hok.fresh (Nat.le_succ _))⟩
  · exact q.elim
/-! isinstance -/
def tyOfD : D → String
  | .none => "NoneType"
  | .bool _ => "bool"
  | .int _ => "int"
  | .str _ => "str"
  | .list _ => "list"
  | .tuple _ => "tuple"
  | .dict _ => "dict"
def isiD (T : String) : D → Bool
  | .none => false
  | .bool _ => T == "int" || T == "bool"
  | .int _ => T == "int"
  | .str _ => T == "str"
  | .list _ => T == "list"
  | .tuple _ => T == "tuple"
  | .dict _ => T == "dict"
theorem BDr.tyX {K : PySem.W.Frag} {N : Addr → Prop} {O : Addr → Prop} {H : Hp} {v : V} {d : D} (h : BDr K N O H v d) : TyX K H v (.type (tyOfD d)) := by
  rcases h with h | ⟨a, xs, ds, rfl, rfl, _, h1, h2⟩
  · cases h with
    | non => exact .base .non
    | bl b => exact .base (.bl b)
    | int i => exact .base (.int i)
    | str x => exact .base (.str x)
    | lst h1 _ _ => exact .base (.lst h1)
    | tup h1 _ =>
      rcases h1 with h1 | ((h1 | ⟨_, h1⟩) | ⟨o, its, n, h1, h2, _⟩)
      · exact .base (.tup h1.1)
      · cases h1
      · cases h1
      · exact .kTuple h1 h2
  · exact .base (.lst h1)
theorem kit_isi (T : String) (hT : T = "int" ∨ T = "bool" ∨ T = "str" ∨ T = "tuple" ∨ T = "list") {d : D} (hd : ∀ kvs, d ≠ .dict kvs) : kitB (tyOfD d) T = some (isiD T d) := by
  rcases hT with rfl | rfl | rfl | rfl | rfl <;> (cases d with
    | dict kvs => exact absurd rfl (hd kvs)
    | _ => (simp only [tyOfD, isiD]; decide +kernel))
end
end DL

set_option Elab.async false
set_option linter.all false
set_option maxRecDepth 100000
set_option maxHeartbeats 1000000
/-! tuple(reversed(a tuple)) -/
namespace DLr
open PySem PySem.Spec PyProof.Rows RT
theorem hint_rt : typeLookup (.type "reversed") "__length_hint__" = pure (some (.builtin "reversed.__length_hint__")) := by rw [typeLookup_type, builtinLookup_eq_fast]; kernel_rfl
theorem nolen_rt : typeLookup (.type "reversed") "__len__" = pure none := by rw [typeLookup_type, builtinLookup_eq_fast]; kernel_rfl
theorem slot_rt_hint : Slot "reversed" "__length_hint__" "reversed.__length_hint__" :=
  .of (owner := "reversed") (n := "__length_hint__") (by rw [typeLookup_type, builtinLookup_eq_fast]; kernel_rfl) (by decide +kernel) (by decide +kernel) (by decide +kernel)
    (by first | exact .inl (by decide +kernel) | exact .inr (by decide +kernel)) (by rw [isSubtype_type]; kernel_rfl)
theorem type_rt_hint : typeOf (.builtin "reversed.__length_hint__") = pure (.type "method_descriptor") := by show builtinType _ = _; rw [builtinType_eq_fast]; kernel_rfl
theorem entry_rt_hint : entryFor table "reversed.__length_hint__" = some Builtin.«reversed.__length_hint__» := entryFor_of_tree (by kernel_rfl)
theorem args_rt_hint (a : Value) : argsOk "reversed.__length_hint__" ⟨[a], []⟩ := by
  unfold argsOk; rw [signature?_of (id := "reversed.__length_hint__") (n := "__length_hint__".toList.reverse) (o := ['d', 'e', 's', 'r', 'e', 'v', 'e', 'r']) (by kernel_rfl) owner_rt]; kernel_rfl
theorem bind_rt_hint (self : Value) : bindSpecial (.builtin "reversed.__length_hint__") self = pure (.builtin "reversed.__length_hint__", [self]) := by
  unfold bindSpecial
  rw [type_rt_hint]
  rfl
/-- how reversed(a tuple) walks -/
theorem walks_rt {prog : Program} {w : World} {A : Around} (hh : A.handled = none) (I t : Addr) (hne : t ≠ I) (items : Array Value) (hn : items.size ≤ sizeLine) :
    Walks prog w A I [I, t] [I] items.size (fun i v => items[items.size - 1 - i]? = some v) (fun i h => i ≤ items.size ∧ IsRt h I t ((items.size : Int) - 1 - (i : Int)) ∧ IsTup h t items) where
  sub := fun b hb => by simp at hb; simp [hb]
  frame := fun _ _ _ x hk => ⟨x.1, x.2.1.at fun o e => hk I (by simp) o e, by
    obtain ⟨o, ho, r⟩ := x.2.2
    exact ⟨o, hk t (by simp) o ho, r⟩⟩
  item := fun i s Q E hi x hQ => by
    have e : (items.size : Int) - 1 - (i : Int) = ((items.size - 1 - i : Nat) : Int) := by omega
    have hit := x.2.1
    rw [e] at hit
    have hx : items[items.size - 1 - i]? = some (items[items.size - 1 - i]'(by omega)) := Array.getElem?_eq_getElem (by omega)
    refine next_rt_item hit x.2.2 hx hn fun h' hit' hs' => ?_
    have e2 : ((items.size - 1 - i : Nat) : Int) - 1 = (items.size : Int) - 1 - ((i + 1 : Nat) : Int) := by omega
    rw [e2] at hit'
    obtain ⟨o, ho, r⟩ := x.2.2
    exact hQ _ h' (s.toks + 1) hx ⟨hi, hit', o, (hs'.2 t hne).trans ho, r⟩ fun b o hb eo => hs'.extBut b o (fun h => hb (by simp [h])) eo
  done := fun s Q E x hQ => by
    have e : (items.size : Int) - 1 - (items.size : Int) = -1 := by omega
    have hit := x.2.1
    rw [e] at hit
    exact next_rt_end hh hit fun h' he' => hQ h' s.toks fun b o hb eo => he' b o (fun h => hb (by simp [h])) eo
  self := fun _ _ _ _ x hQ => iter_rt x.2.1 hQ
section
variable {prog : Program} {w : World} {A : Around} {E : Value → Shared → Prop} {s : Shared}
theorem collect_rt {it t : Addr} {items : Array Value} {Q : List Value → Shared → Prop} (hh : A.handled = none) (hit : IsRt s.heap it t ((items.size : Int) - 1)) (hl : IsTup s.heap t items) (hne : t ≠ it) (hn : items.size ≤ sizeLine)
    (hQ : ∀ (h' : Heap) (tk : Nat) (acc : Array Value), (∀ b o, b ≠ it → s.heap.get? b = some o → h'.get? b = some o) → ItemsOf (fun i v => items[items.size - 1 - i]? = some v) acc items.size → Q acc.toList { s with heap := h', toks := tk }) :
    wpAny (model prog w) A (collect (.ref it)) Q E s := by
  have W := (walks_rt (prog := prog) (w := w) (A := A.in1) hh it t hne items hn).toS
  obtain ⟨oi, hoi, _⟩ := id hit
  obtain ⟨ol, hol, rol⟩ := id hl
  have hSi : s.heap.objs.size ≠ it := Nat.ne_of_gt (Heap.lt_size hoi)
  have hSl : s.heap.objs.size ≠ t := Nat.ne_of_gt (Heap.lt_size hol)
  have hSf : s.heap.objs.size ∉ [it, t] := by simp only [List.mem_cons, List.not_mem_nil, or_false, not_or]; exact ⟨hSi, hSl⟩
  unfold collect
  refine wpAny_bind (wpAny_runValue (codeAny_builtin F.entry_proto_collect ?_))
  rw [Around.under_plainId F.plain_proto_collect _]
  show wpAny _ A.in1 (newList [] >>= fun l' => again (.builtin "list.__iadd__" ⟨[l', .ref it], []⟩)) _ _ s
  refine wpAny_bind (wpAny_newObj_type ?_)
  refine wpAny_pure ⟨plainId_quiet F.plain_list_iadd _, codeAny_builtin F.entry_list_iadd ?_⟩
  rw [Around.under_plainId F.plain_list_iadd _]
  have hS₁ : (s.heap.push { cls := .type "list", data := .seq ([] : List Value).toArray }).get? s.heap.objs.size = some { cls := .type "list", data := .seq ([] : List Value).toArray } := Heap.get?_push_size _ rfl
  have hit1 : IsRt (s.heap.push { cls := .type "list", data := .seq ([] : List Value).toArray }) it t ((items.size : Int) - 1) := hit.at fun o e => Heap.get?_push_of_some _ e
  have hl1 : IsTup (s.heap.push { cls := .type "list", data := .seq ([] : List Value).toArray }) t items := ⟨ol, Heap.get?_push_of_some _ hol, rol⟩
  have hT : ({ s with heap := s.heap.push { cls := .type "list", data := .seq ([] : List Value).toArray } } : Shared).TypeIs (.ref it) "reversed" := IsRt.typeIs (s := { s with heap := s.heap.push { cls := .type "list", data := .seq ([] : List Value).toArray } }) hit1
  have h1 : Builtin.List.listSameRef (.ref s.heap.objs.size) (.ref it) = false := by simp [Builtin.List.listSameRef, hSi]
  show wpAny _ A.in1 (Builtin.List.listExtendWith (.ref s.heap.objs.size) (.ref it) (.ref s.heap.objs.size)) _ _ _
  unfold Builtin.List.listExtendWith
  refine wpAny_bind (wpAny_typeOf hT ?_)
  rw [if_neg (by rw [h1]; decide)]
  refine wpAny_bind (iter_rt (s := { s with heap := s.heap.push { cls := .type "list", data := .seq ([] : List Value).toArray } }) hit1 ?_)
  refine wpAny_bind (wpAny_holding ?_)
  unfold Builtin.List.listLengthHint
  refine wpAny_bind (wpAny_specialOf hT nolen_rt ?_)
  show wpAny _ A.in1 (specialOf (Value.ref it) (Str.ofString "__length_hint__") >>= _) _ _ _
  refine wpAny_bind (wpAny_specialOf hT hint_rt ?_)
  generalize hid : ("reversed.__length_hint__" : String) = id0
  wp_delta
  rw [show splitId id0 = some ("reversed", "__length_hint__") from by subst hid; decide +kernel]
  subst hid
  refine wpAny_bind (wpAny_isInstance (b := true) hT (by rw [isSubtype_type]; kernel_rfl) ?_)
  rw [if_neg (by decide)]
  obtain ⟨o1, ho1, hc1, hd1⟩ := id hit1
  have hn63 := L2.line63
  have hn2 := hn
  have hszl := sizeLine_eq
  dsimp only
  rw [if_neg (by decide +kernel)]
  refine wpAny_bind (wpAny_rule ?_)
  refine wpAny_bind (wpAny_of_eq (bind_rt_hint _) ?_)
  dsimp only
  refine wpAny_bind (wpAny_attempt (wpAny_call_entry slot_rt_hint hT entry_rt_hint ?_ (args_rt_hint _)))
  unfold Builtin.«reversed.__length_hint__»
  refine wpAny_bind (wpAny_of_eq (a := Value.ref it) rfl ?_)
  refine wpAny_bind (wpAny_field ho1 hd1 (x := .ref t) rfl ?_)
  dsimp only
  rw [if_neg (show ¬ ((Value.ref t == Value.none) = true) from Bool.false_ne_true)]
  refine wpAny_bind (PyProof.Rows.len_tuple hl1 (by omega) ?_)
  refine wpAny_bind (wpAny_of_eq (a := some (items.size : Int)) rfl ?_)
  dsimp only
  refine wpAny_bind (wpAny_field ho1 hd1 (x := rawInt ((items.size : Int) - 1)) rfl ?_)
  dsimp only [rawInt]
  rw [if_neg (by omega)]
  unfold retInt
  refine wpAny_bind (wpAny_mkInt ?_)
  refine wpAny_pure ⟨_, rfl, ?_⟩
  dsimp only
  rw [show ((items.size : Int) - 1 + 1) = (items.size : Int) by omega]
  have hai : ∀ k, asInt? (Value.int (items.size : Int) k) = pure (some (items.size : Int)) := fun _ => rfl
  rw [hai]
  rw [pure_bind]
  dsimp only
  have hfit : Builtin.List.listFitsIndex (items.size : Int) = true := by
    unfold Builtin.List.listFitsIndex
    rw [Bool.and_eq_true, decide_eq_true_iff, decide_eq_true_iff]
    omega
  rw [hfit, if_neg (by decide), if_neg (by omega), if_neg (by unfold Builtin.List.listTooLong; rw [decide_eq_true_iff, Int.toNat_natCast]; omega)]
  refine wpAny_pure ?_
  have e0 : ((items.size : Nat) : Int) - 1 - ((0 : Nat) : Int) = (items.size : Int) - 1 := by omega
  by_cases hz : items.size = 0
  · rw [if_neg (by rw [hz]; decide +kernel)]
    refine wpAny_pure ⟨plainId_quiet F.plain_extend_loop _, codeAny_extend_loopS W hn _ hSf _ items.size 0 _ _ _ rfl (Nat.zero_le _) ⟨Nat.zero_le _, by rw [e0]; exact hit1, hl1⟩ hS₁ (ItemsOf.nil _) fun s' acc' c' hm hS' hacc => ?_⟩
    show wpAny _ A (load s.heap.objs.size >>= _) _ _ s'
    refine wpAny_bind (wpAny_load hS' ?_)
    refine wpAny_pure ?_
    rw [Moved.eq_with hm]
    refine hQ s'.heap s'.toks acc' (fun b o hb e => hm.heap b o (fun hmem => ?_) (Heap.get?_push_of_some _ e)) hacc
    rcases List.mem_cons.mp hmem with e' | hmem
    · exact absurd (Heap.lt_size e) (by rw [e']; exact Nat.lt_irrefl _)
    · exact hb (List.mem_singleton.mp hmem)
  · have hnz : ((items.size : Int) != 0) = true := by
      rw [bne_iff_ne]
      omega
    rw [if_pos (by rw [hnz]; rfl)]
    refine wpAny_bind (wpAny_rule ?_)
    refine wpAny_bind ?_
    unfold Builtin.List.listTouch
    refine wpAny_bind (wpAny_updateSeq hS₁ rfl ?_ (by simp) (by simp))
    have hS2 := Heap.get?_update_self (Obj.mapSeq fun x : Array Value => x.push Value.none) hS₁ rfl
    refine wpAny_updateSeq hS2 rfl ?_ (by simp [Obj.mapSeq]; omega) (by simp [Obj.mapSeq])
    have hS3 := Heap.get?_update_self (Obj.mapSeq fun x : Array Value => x.pop) hS2 rfl
    have kp : ∀ b o, b ≠ s.heap.objs.size → (s.heap.push { cls := .type "list", data := .seq ([] : List Value).toArray }).get? b = some o → (((s.heap.push { cls := .type "list", data := .seq ([] : List Value).toArray }).update s.heap.objs.size (Obj.mapSeq fun x : Array Value => x.push Value.none)).update s.heap.objs.size (Obj.mapSeq fun x : Array Value => x.pop)).get? b = some o := fun b o hb e =>
      (Heap.get?_update_other _ _ (Ne.symm hb)).trans ((Heap.get?_update_other _ _ (Ne.symm hb)).trans e)
    have hit3 := hit1.at fun o e => kp it o (Ne.symm hSi) e
    have hl3 : IsTup _ t items := ⟨ol, kp t ol (Ne.symm hSl) (Heap.get?_push_of_some _ hol), rol⟩
    refine wpAny_pure ⟨plainId_quiet F.plain_extend_loop _, codeAny_extend_loopS W hn _ hSf _ items.size 0 _ _ _ rfl (Nat.zero_le _) ⟨Nat.zero_le _, by rw [e0]; exact hit3, hl3⟩ hS3 (ItemsOf.nil _) fun s' acc' c' hm hS' hacc => ?_⟩
    show wpAny _ A (load s.heap.objs.size >>= _) _ _ s'
    refine wpAny_bind (wpAny_load hS' ?_)
    refine wpAny_pure ?_
    rw [Moved.eq_with hm]
    refine hQ s'.heap s'.toks acc' (fun b o hb e => hm.heap b o (fun hmem => ?_) (kp b o (fun e' => absurd (Heap.lt_size e) (by rw [e']; exact Nat.lt_irrefl _)) (Heap.get?_push_of_some _ e))) hacc
    rcases List.mem_cons.mp hmem with e' | hmem
    · exact absurd (Heap.lt_size e) (by rw [e']; exact Nat.lt_irrefl _)
    · exact hb (List.mem_singleton.mp hmem)
theorem code_tuple_new_rt {it t : Addr} {items : Array Value} {Q₁ : Value → Shared → Prop} (hh : A.handled = none) (hit : IsRt s.heap it t ((items.size : Int) - 1)) (hl : IsTup s.heap t items) (hne : t ≠ it) (hn : items.size ≤ sizeLine)
    (h : ∀ (h' : Heap) (tk : Nat) (acc : Array Value), (∀ b o, b ≠ it → s.heap.get? b = some o → h'.get? b = some o) → ItemsOf (fun i v => items[items.size - 1 - i]? = some v) acc items.size →
      Q₁ (.ref h'.objs.size) { s with heap := h'.push { cls := .type "tuple", data := .seq acc }, toks := tk }) :
    codeAny (model prog w) A (.call (.builtin "tuple.__new__") ⟨[.type "tuple", .ref it], []⟩) (wants Q₁ E) s := by
  refine codeAny_of_tree ?_
  show wpAny _ A.in1 (do checkBuiltinCall "tuple.__new__" ⟨[.type "tuple", .ref it], []⟩; again (.builtin "tuple.__new__" ⟨[.type "tuple", .ref it], []⟩)) _ _ s
  refine wpAny_bind (wpAny_of_eq (F.newCall_tuple_1 _) (wpAny_pure ⟨plainId_quiet F.plain_tuple_new _, codeAny_builtin F.entry_tuple_new ?_⟩))
  rw [Around.under_plainId F.plain_tuple_new _]
  have hsub := sub_tuple_self
  have hinit := init_tuple_lookup
  have hmh := madeHere_tuple
  have hTI : s.TypeIs (.ref it) "reversed" := hit.typeIs
  have hh1 : A.in1.handled = none := hh
  wp_walk using wpAny_typeOf hTI, collect_rt (A := A.in1) hh1 hit hl hne hn
  intro h' tk acc hk hacc
  show wpAny _ _ (Builtin.Tuple.tupleExact acc.toList.toArray >>= fun v => ret v) _ _ _
  unfold Builtin.Tuple.tupleExact
  refine wpAny_bind (wpAny_newObj_type ?_ (by show acc.toList.toArray.size ≤ sizeLine; simp only [Array.toArray_toList]; rw [hacc.1]; exact hn))
  refine wpAny_pure ?_
  have e : acc.toList.toArray = acc := by simp
  rw [e]
  exact h h' tk acc hk hacc
theorem call_tuple_rt {it t : Addr} {items : Array Value} {Q : Value → Shared → Prop} (hh : A.handled = none) (hit : IsRt s.heap it t ((items.size : Int) - 1)) (hl : IsTup s.heap t items) (hne : t ≠ it) (hn : items.size ≤ sizeLine)
    (hQ : ∀ (h' : Heap) (tk : Nat) (acc : Array Value), (∀ b o, b ≠ it → s.heap.get? b = some o → h'.get? b = some o) → ItemsOf (fun i v => items[items.size - 1 - i]? = some v) acc items.size →
      Q (.ref h'.objs.size) { s with heap := h'.push { cls := .type "tuple", data := .seq acc }, toks := tk }) :
    wpAny (model prog w) A (call (.type "tuple") [.ref it]) Q E s := by
  refine callType_codes (Q₁ := fun obj s₁ => s₁.TypeIs obj "tuple" ∧ Q obj s₁) F.called_tuple (F.typeCall_tuple_1 _) F.entry_object_init
    (code_tuple_new_rt (A := A.in1) hh hit hl hne hn fun h' tk acc hk hacc => ⟨⟨_, Heap.get?_push_size _ rfl, rfl⟩, hQ h' tk acc hk hacc⟩) fun obj s₁ h₁ => ?_
  exact ⟨h₁.1, F.args_object_init_2 obj _, object_init_meets F.called_tuple.init.lookup F.called_tuple.made (by decide) prog w A.in1 _ s₁ ⟨h₁.1, rfl, h₁.2⟩⟩
end
end DLr
namespace DL
open PySem PySem.Spec PyProof.Rows L2 RT DLr
section
variable {X : Cx}
/-- tuple(reversed(x)), x a list or a tuple: a new tuple -/
def tTupRv (K : PySem.W.Frag) (te : TE) : TE := fun σ H Q => te σ H fun v H1 => ∃ (a : Addr) (xs : List V), v = .ref a ∧ (SqL K H1 a xs ∨ SqT K H1 a xs) ∧ ∀ q, H1 q = none → Q (.ref q) (upd H1 q (.tup xs.reverse))
theorem pe_tupRv {e : Expr} {te : TE} {p p2 pos pos2 : Pos} (hc : X.calm = true) (hg : Gl X "tuple") (hm : X.mg "tuple" = none) (hg2 : Gl X "reversed") (hm2 : X.mg "reversed" = none) (he : PE X e te)
    (hs : starEach [e] X.env = (false, eval e X.env) :: starEach [] X.env := by rfl)
    (hs2 : starEach [.Call (.Name "reversed" p2) [e] [] pos2] X.env = (false, eval (.Call (.Name "reversed" p2) [e] [] pos2) X.env) :: starEach [] X.env := by rfl) :
    PE X (.Call (.Name "tuple" p) [.Call (.Name "reversed" p2) [e] [] pos2] [] pos) (tTupRv X.K te) := by
  refine ⟨fun pins s σ H Q I h => ?_⟩
  refine Call_ (ld_blt I hg hm boot_tuple (PyProof.Rows.callWith_type1 (args_cons (Call_ (ld_blt I hg2 hm2 PyProof.Rows.boot_reversed (PyProof.Rows.callWith_type1 (args_cons (thn (he.run pins s σ H _ I h) fun u s1 ⟨v, H1, I1, r1, q1⟩ => args_nil ?_) hs) hs rfl))) hs2) hs2 rfl))
  obtain ⟨a, xs, ev, hq, q⟩ := q1
  subst ev
  obtain rfl : u = Value.ref a := r1
  rcases hq with hq | hq
  · obtain ⟨its, rv, p', hz⟩ := I1.list hq
    refine call_reversed_list p'.isList (args_nil ?_)
    have k0 : ∀ b o, s1.heap.get? b = some o → (s1.heap.push (revObj a ((its.toArray.size : Int) - 1))).get? b = some o := fun b o e => Heap.get?_push_of_some _ e
    have I2 : Inv X pins σ H1 { s1 with heap := s1.heap.push (revObj a ((its.toArray.size : Int) - 1)) } := I1.kept (t' := s1.toks) k0
    obtain ⟨f0, f1, f2, f3, f4, f5⟩ := I1.fpOk (H' := H1) (b := s1.heap.objs.size) (Nat.le_refl _) (I1.hok.fresh (Nat.le_refl _))
    have hl := p'.isList
    obtain ⟨ol, hol, _⟩ := id hl
    have hne : a ≠ s1.heap.objs.size := Nat.ne_of_lt (Heap.lt_size hol)
    have hn : its.toArray.size ≤ sizeLine := by rw [List.size_toArray, ← rv.length]; exact hz
    refine call_tuple_rev (s := { s1 with heap := s1.heap.push (revObj a ((its.toArray.size : Int) - 1)) }) (I1.ok.hd hc) ⟨_, Heap.get?_push_size _ rfl, rfl, rfl⟩ (hl.push _) hne hn fun h' tk acc hk hi => ?_
    have I3 : Inv X pins σ H1 { s1 with heap := h', toks := tk } := I2.turned (t' := tk) (fun b o hb e => hk b o hb e) f0 f1 f3 f4 f5
    refine ⟨.ref h'.objs.size, upd H1 h'.objs.size (.tup xs.reverse), I3.laid (t' := tk) (fun c o e => Heap.get?_push_of_some _ e) (Nat.le_refl _) (show ObjOk X.prog X.w _ _ _ (.tup xs.reverse) from ⟨by rw [List.length_reverse]; exact hz, acc.toList, vals_rev rv hi, ?_⟩), rfl, q _ (I3.hok.fresh (Nat.le_refl _))⟩
    rw [Array.toArray_toList]
    exact IsTup.new _ _
  · obtain ⟨its, rv, p', hz⟩ := I1.tuple hq
    have hn : its.toArray.size ≤ sizeLine := by rw [List.size_toArray, ← rv.length]; exact hz
    have hn63 := line63
    refine call_reversed_tup p' (fun A E Q k => len_tuple p' (by simp only [List.size_toArray] at hn ⊢ <;> omega) k) (args_nil ?_)
    have k0 : ∀ b o, s1.heap.get? b = some o → (s1.heap.push (rtObj a ((its.toArray.size : Int) - 1))).get? b = some o := fun b o e => Heap.get?_push_of_some _ e
    have I2 : Inv X pins σ H1 { s1 with heap := s1.heap.push (rtObj a ((its.toArray.size : Int) - 1)), toks := s1.toks + 1 + 1 } := I1.kept (t' := s1.toks + 1 + 1) k0
    obtain ⟨f0, f1, f2, f3, f4, f5⟩ := I1.fpOk (H' := H1) (b := s1.heap.objs.size) (Nat.le_refl _) (I1.hok.fresh (Nat.le_refl _))
    obtain ⟨ol, hol, rol⟩ := id p'
    have hne : a ≠ s1.heap.objs.size := Nat.ne_of_lt (Heap.lt_size hol)
    refine call_tuple_rt (s := { s1 with heap := s1.heap.push (rtObj a ((its.toArray.size : Int) - 1)), toks := s1.toks + 1 + 1 }) (I1.ok.hd hc) ⟨_, Heap.get?_push_size _ rfl, rfl, rfl⟩ ⟨ol, Heap.get?_push_of_some _ hol, rol⟩ hne hn fun h' tk acc hk hi => ?_
    have I3 : Inv X pins σ H1 { s1 with heap := h', toks := tk } := I2.turned (t' := tk) (fun b o hb e => hk b o hb e) f0 f1 f3 f4 f5
    refine ⟨.ref h'.objs.size, upd H1 h'.objs.size (.tup xs.reverse), I3.laid (t' := tk) (fun c o e => Heap.get?_push_of_some _ e) (Nat.le_refl _) (show ObjOk X.prog X.w _ _ _ (.tup xs.reverse) from ⟨by rw [List.length_reverse]; exact hz, acc.toList, vals_rev rv hi, ?_⟩), rfl, q _ (I3.hok.fresh (Nat.le_refl _))⟩
    rw [Array.toArray_toList]
    exact IsTup.new _ _
end
end DL

set_option Elab.async false
set_option linter.all false
set_option maxRecDepth 100000
set_option maxHeartbeats 4000000
namespace DL
open PySem PySem.Spec PyProof.Rows L2
/-! ### dicts whose keys are tuples of numbers, tuples, None -/
mutual
/-- a key without texts -/
def plainK : NestedKey → Bool
  | .none => true
  | .num _ => true
  | .text _ => false
  | .tup ks => plainKs ks
def plainKs : List NestedKey → Bool
  | [] => true
  | k :: ks => plainK k && plainKs ks
end
mutual
theorem hash_plain (w w' : World) : ∀ k : NestedKey, plainK k = true → k.hash w = k.hash w'
  | .none, _ => by rw [NestedKey.hash, NestedKey.hash]
  | .num _, _ => by rw [NestedKey.hash, NestedKey.hash]
  | .text _, h => by rw [plainK] at h; cases h
  | .tup ks, h => by rw [plainK] at h; rw [NestedKey.hash, NestedKey.hash, hashes_plain w w' ks h]
theorem hashes_plain (w w' : World) : ∀ ks : List NestedKey, plainKs ks = true → NestedKey.hashes w ks = NestedKey.hashes w' ks
  | [], _ => by rw [NestedKey.hashes, NestedKey.hashes]
  | k :: ks, h => by
    rw [plainKs, Bool.and_eq_true] at h
    rw [NestedKey.hashes, NestedKey.hashes, hash_plain w w' k h.1, hashes_plain w w' ks h.2]
end
abbrev EnV := NestedKey × Addr × V
abbrev EnU := NestedKey × Addr × Value
def entW (w : World) (y : EnU) : DictEntry := ⟨y.1.hash w, .ref y.2.1, y.2.2⟩
abbrev EnR (x : EnV) (y : EnU) : Prop := x.1 = y.1 ∧ x.2.1 = y.2.1 ∧ RelV x.2.2 y.2.2
def keyOkK (k : NestedKey) : Prop := plainK k = true ∧ k.depth ≤ 8
/-- the object of a dict with the entries xs -/
def dctφ (a : Addr) (xs : List EnV) (h : Heap) : Prop := (a == sysModules) = false ∧ xs.length ≤ sizeLine ∧ (xs.map (·.1)).Nodup ∧ (∀ x ∈ xs, keyOkK x.1) ∧
  ∃ (w : World) (ys : List EnU), Paired EnR xs ys ∧ ∃ o es ep, h.get? a = some o ∧ o.ExactDict ∧ o.data = .dict es ep ∧ es.toList = ys.map (entW w)
def dctO (a : Addr) (xs : List EnV) : HO := .ext (dctφ a xs)
theorem dctO_ok {P : Program} {w : World} {H : Hp} {h : Heap} {a : Addr} {xs : List EnV} (x : dctφ a xs h) : ObjOk P w H h a (dctO a xs) := by
  refine ⟨x, ?_, fun h1 h2 y k => ?_⟩
  · obtain ⟨_, _, _, _, _, _, _, o, _, _, e, _⟩ := x
    exact ⟨o, e⟩
  · obtain ⟨a1, a2, a3, a4, w', ys, r, o, es, ep, e, c⟩ := y
    exact ⟨a1, a2, a3, a4, w', ys, r, o, es, ep, k _ e, c⟩
/-- a dict that a frame owns: its keys and values as data -/
def OdR (K : PySem.W.Frag) (O : Addr → Prop) (H : Hp) (a : Addr) (kvs : List (NestedKey × D)) : Prop :=
  ∃ xs : List EnV, H a = some (dctO a xs) ∧ Paired (fun (x : EnV) (p : NestedKey × D) => x.1 = p.1 ∧ Dr K O H (.ref x.2.1) p.1.data ∧ Dr K O H x.2.2 p.2) xs kvs
theorem OdR.map {K : PySem.W.Frag} {O O' : Addr → Prop} {H H' : Hp} {a : Addr} {kvs : List (NestedKey × D)} (x : OdR K O H a kvs) (h1 : ∀ o, H a = some o → H' a = some o) (h2 : ∀ v d, Dr K O H v d → Dr K O' H' v d) : OdR K O' H' a kvs := by
  obtain ⟨xs, e, r⟩ := x
  exact ⟨xs, h1 _ e, Paired.mapP r fun x p z => ⟨z.1, h2 _ _ z.2.1, h2 _ _ z.2.2⟩⟩
section
variable {X : Cx} {pins : List (Addr × Obj)} {σ : L2.St} {H : Hp} {s : Shared} {O : Addr → Prop}
mutual
/-- data that are a key are that key in the heap -/
theorem dr_key (I : Inv X pins σ H s) : ∀ (k : NestedKey) (v : V) (u : Value), plainK k = true → Dr X.K O H v k.data → RelV v u → NestedIs s.heap k u
  | .none, v, u, _, h, r => by
    rw [NestedKey.data] at h
    cases h; cases r; exact .none
  | .num i, v, u, _, h, r => by
    rw [NestedKey.data] at h
    cases h
    obtain ⟨t, rfl⟩ := r
    exact .int i t
  | .text _, _, _, p, _, _ => by rw [plainK] at p; cases p
  | .tup ks, v, u, p, h, r => by
    rw [NestedKey.data] at h
    rw [plainK] at p
    cases h with
    | @tup a xs _ h1 h3 =>
      cases r
      obtain ⟨its, rv, ⟨o, ho, hc, n, hd⟩, _⟩ := I.tuple h1.sq
      refine .tup ho hc hd ?_
      exact dr_keys I ks xs its p h3 rv
theorem dr_keys (I : Inv X pins σ H s) : ∀ (ks : List NestedKey) (vs : List V) (us : List Value), plainKs ks = true → DrA X.K O H vs (NestedKey.datas ks) → Vals vs us → NestedAll s.heap ks us
  | [], vs, us, _, h, r => by
    rw [NestedKey.datas] at h
    cases h; cases r; exact .nil
  | k :: ks, vs, us, p, h, r => by
    rw [NestedKey.datas] at h
    rw [plainKs, Bool.and_eq_true] at p
    cases h with
    | cons h1 h2 =>
      cases r with
      | cons r1 r2 => exact .cons (dr_key I k _ _ p.1 h1 r1) (dr_keys I ks _ _ p.2 h2 r2)
end
theorem paired_mem {α β : Type} {R : α → β → Prop} {xs : List α} {ys : List β} (h : Paired R xs ys) : ∀ y ∈ ys, ∃ x ∈ xs, R x y := by
  induction h with
  | nil => nofun
  | cons h1 _ ih =>
    intro y hy
    rcases List.mem_cons.mp hy with rfl | hy
    · exact ⟨_, List.mem_cons_self, h1⟩
    · obtain ⟨x, hx, q⟩ := ih y hy
      exact ⟨x, List.mem_cons_of_mem _ hx, q⟩
theorem paired_keys {xs : List EnV} {ys : List EnU} (h : Paired EnR xs ys) : xs.map (·.1) = ys.map (·.1) := by
  induction h with
  | nil => rfl
  | cons h1 _ ih => rw [List.map_cons, List.map_cons, h1.1, ih]
abbrev DV (K : PySem.W.Frag) (O : Addr → Prop) (H : Hp) (xs : List EnV) (kvs : List (NestedKey × D)) : Prop := Paired (fun (x : EnV) (p : NestedKey × D) => x.1 = p.1 ∧ Dr K O H (.ref x.2.1) p.1.data ∧ Dr K O H x.2.2 p.2) xs kvs
/-- the dict as the library tells it -/
theorem od_of (I : Inv X pins σ H s) {a : Addr} {xs : List EnV} {kvs : List (NestedKey × D)} (e : H a = some (dctO a xs)) (dv : DV X.K O H xs kvs) :
    (a == sysModules) = false ∧ xs.length ≤ sizeLine ∧ (∀ x ∈ xs, keyOkK x.1) ∧ ∃ ys : List EnU, Paired EnR xs ys ∧ s.heap.DictOfH (nestedKind X.prog X.w) a ys := by
  obtain ⟨⟨a1, a2, a3, a4, w', ys, r, o, es, ep, ho, hx, hd, he⟩, _, _⟩ := (show ObjOk X.prog X.w H s.heap a (dctO a xs) from I.hok a _ e)
  refine ⟨a1, a2, a4, ys, r, o, es, ep, ho, hx, hd, ?_, fun y hy => ?_, ?_⟩
  · rw [he]
    refine List.map_congr_left fun y hy => ?_
    obtain ⟨x, hx', q⟩ := paired_mem r y hy
    have := (a4 x hx').1
    rw [q.1] at this
    show DictEntry.mk _ _ _ = DictEntry.mk _ _ _
    rw [show y.1.hash w' = (nestedKind X.prog X.w).hash y.1 from hash_plain w' X.w y.1 this]
  · obtain ⟨x, hx', q⟩ := paired_mem r y hy
    obtain ⟨i, hi⟩ := List.getElem?_of_mem hx'
    have hk := a4 x hx'
    have hdr : Dr X.K O H (.ref x.2.1) x.1.data := by
      have : ∀ {xs : List EnV} {kvs : List (NestedKey × D)}, DV X.K O H xs kvs → x ∈ xs → Dr X.K O H (.ref x.2.1) x.1.data := by
        intro xs kvs h
        induction h with
        | nil => nofun
        | cons h1 _ ih =>
          intro hm
          rcases List.mem_cons.mp hm with rfl | hm
          · rw [h1.1]; exact h1.2.1
          · exact ih hm
      exact this dv hx'
    rw [q.1, q.2.1] at hdr
    rw [q.1] at hk
    exact ⟨dr_key I y.1 _ _ hk.1 hdr rfl, hk.2⟩
  · rw [← paired_keys r]; exact a3
theorem dctφ_of {P : Program} {w : World} {h : Heap} {a : Addr} {xs : List EnV} {ys : List EnU} (hd : (a == sysModules) = false) (hl : xs.length ≤ sizeLine) (hk : ∀ x ∈ xs, keyOkK x.1) (r : Paired EnR xs ys) (d : h.DictOfH (nestedKind P w) a ys) : dctφ a xs h := by
  obtain ⟨o, es, ep, ho, hx, hdat, he, _, hn⟩ := d
  exact ⟨hd, hl, by rw [paired_keys r]; exact hn, hk, w, ys, r, o, es, ep, ho, hx, hdat, he⟩
/-! what is there, what is stored -/
def lookV (kvs : List (NestedKey × D)) (k : NestedKey) : Option D := (kvs.find? fun p => decide (p.1 = k)).map (·.2)
def putV (kvs : List (NestedKey × D)) (k : NestedKey) (d : D) : List (NestedKey × D) := if (lookV kvs k).isSome then kvs.map (fun p => if p.1 = k then (p.1, d) else p) else kvs ++ [(k, d)]
def lookX (xs : List EnV) (k : NestedKey) : Option V := (xs.find? fun p => decide (p.1 = k)).map (·.2.2)
def putX (xs : List EnV) (k : NestedKey) (b : Addr) (v : V) : List EnV := if (lookX xs k).isSome then xs.map (fun p => if p.1 = k then (p.1, p.2.1, v) else p) else xs ++ [(k, b, v)]
theorem dv_look {K : PySem.W.Frag} {xs : List EnV} {kvs : List (NestedKey × D)} (h : DV K O H xs kvs) (k : NestedKey) : (lookX xs k = none ∧ lookV kvs k = none) ∨ ∃ v d, lookX xs k = some v ∧ lookV kvs k = some d ∧ Dr K O H v d := by
  unfold lookX lookV
  induction h with
  | nil => exact .inl ⟨rfl, rfl⟩
  | @cons x p xs ps h1 _ ih =>
    by_cases e : x.1 = k
    · have e2 : p.1 = k := by rw [← h1.1]; exact e
      rw [List.find?_cons_of_pos (by simpa using e), List.find?_cons_of_pos (by simpa using e2)]
      exact .inr ⟨_, _, rfl, rfl, h1.2.2⟩
    · have e2 : ¬ p.1 = k := by rw [← h1.1]; exact e
      rw [List.find?_cons_of_neg (by simpa using e), List.find?_cons_of_neg (by simpa using e2)]
      exact ih
theorem er_look {xs : List EnV} {ys : List EnU} (h : Paired EnR xs ys) (k : NestedKey) : (lookX xs k = none ∧ atKey ys k = none) ∨ ∃ v b u, lookX xs k = some v ∧ atKey ys k = some (b, u) ∧ RelV v u := by
  unfold lookX atKey
  induction h with
  | nil => exact .inl ⟨rfl, rfl⟩
  | @cons x p xs ps h1 _ ih =>
    by_cases e : x.1 = k
    · have e2 : p.1 = k := by rw [← h1.1]; exact e
      rw [List.find?_cons_of_pos (by simpa using e), List.find?_cons_of_pos (by simpa using e2)]
      exact .inr ⟨_, _, _, rfl, rfl, h1.2.2⟩
    · have e2 : ¬ p.1 = k := by rw [← h1.1]; exact e
      rw [List.find?_cons_of_neg (by simpa using e), List.find?_cons_of_neg (by simpa using e2)]
      exact ih
theorem paired_maps {α β γ δ : Type} {R : α → β → Prop} {S : γ → δ → Prop} {f : α → γ} {g : β → δ} {xs : List α} {ys : List β} (h : Paired R xs ys) (q : ∀ x y, R x y → S (f x) (g y)) : Paired S (xs.map f) (ys.map g) := by
  induction h with
  | nil => exact .nil
  | cons h1 _ ih => exact .cons (q _ _ h1) ih
theorem paired_app1 {α β : Type} {R : α → β → Prop} {xs : List α} {ys : List β} (h : Paired R xs ys) {x : α} {y : β} (q : R x y) : Paired R (xs ++ [x]) (ys ++ [y]) := by
  induction h with
  | nil => exact .cons q .nil
  | cons h1 _ ih => exact .cons h1 ih
theorem er_put {xs : List EnV} {ys : List EnU} (h : Paired EnR xs ys) {k : NestedKey} {b : Addr} {v : V} {u : Value} (r : RelV v u) : Paired EnR (putX xs k b v) (storedH ys k b u) := by
  unfold putX storedH
  rcases er_look h k with ⟨e1, e2⟩ | ⟨v0, b0, u0, e1, e2, _⟩
  · rw [e1, e2]
    simp only [Option.isSome_none, Bool.false_eq_true, if_false]
    exact paired_app1 h ⟨rfl, rfl, r⟩
  · rw [e1, e2]
    simp only [Option.isSome_some, if_true]
    refine paired_maps h fun x y q => ?_
    unfold putAt
    by_cases e : x.1 = k
    · rw [if_pos e, if_pos (by rw [← q.1]; exact e)]
      exact ⟨q.1, q.2.1, r⟩
    · rw [if_neg e, if_neg (by rw [← q.1]; exact e)]
      exact q
theorem dv_put {K : PySem.W.Frag} {xs : List EnV} {kvs : List (NestedKey × D)} (h : DV K O H xs kvs) {k : NestedKey} {b : Addr} {v : V} {d : D} (r1 : Dr K O H (.ref b) k.data) (r : Dr K O H v d) : DV K O H (putX xs k b v) (putV kvs k d) := by
  unfold putX putV
  rcases dv_look h k with ⟨e1, e2⟩ | ⟨v0, d0, e1, e2, _⟩
  · rw [e1, e2]
    simp only [Option.isSome_none, Bool.false_eq_true, if_false]
    exact paired_app1 h ⟨rfl, r1, r⟩
  · rw [e1, e2]
    simp only [Option.isSome_some, if_true]
    refine paired_maps h fun x y q => ?_
    by_cases e : x.1 = k
    · rw [if_pos e, if_pos (by rw [← q.1]; exact e)]
      exact ⟨q.1, q.2.1, r⟩
    · rw [if_neg e, if_neg (by rw [← q.1]; exact e)]
      exact q
theorem putX_len (xs : List EnV) (k : NestedKey) (b : Addr) (v : V) : (putX xs k b v).length ≤ xs.length + 1 := by
  unfold putX
  split
  · rw [List.length_map]; omega
  · simp
theorem putX_keys {xs : List EnV} (h : ∀ x ∈ xs, keyOkK x.1) {k : NestedKey} (hk : keyOkK k) (b : Addr) (v : V) : ∀ x ∈ putX xs k b v, keyOkK x.1 := by
  intro x hx
  unfold putX at hx
  split at hx
  · obtain ⟨y, hy, rfl⟩ := List.mem_map.mp hx
    have := h y hy
    split <;> exact this
  · rcases List.mem_append.mp hx with hx | hx
    · exact h x hx
    · rw [List.mem_singleton.mp hx]; exact hk
/-- d.get(k, x) -/
theorem d_getN {A : Around} {E : Value → Shared → Prop} {a b : Addr} {xs : List EnV} {kvs : List (NestedKey × D)} {k : NestedKey} {x : V} {r : Value} {Q : Value → Shared → Prop} (hu : A.in1.units + 8 < cLine) (I : Inv X pins σ H s) (e : H a = some (dctO a xs)) (dv : DV X.K O H xs kvs)
    (hk : keyOkK k) (hb : Dr X.K O H (.ref b) k.data) (rx : RelV x r) (h : ∀ v u s', Inv X pins σ H s' → RelV v u → (lookX xs k = some v ∨ (lookX xs k = none ∧ v = x)) → Q u s') :
    wpAny (model X.prog X.w) A (call (.builtin "dict.get") [.ref a, .ref b, r]) Q E s := by
  obtain ⟨a1, a2, a4, ys, re, d⟩ := od_of I e dv
  refine call_meetsIn PySem.F.slot_dict_get d.typeIs PySem.F.entry_dict_get (PySem.F.args_dict_get_3 _ _ _) (meetsH_dict_get_default (nestedKind X.prog X.w) a b a1 r) ⟨hu, k, ys, ⟨dr_key I k _ _ hk.1 hb rfl, hk.2⟩, d, ?_⟩
  rcases er_look re k with ⟨e1, e2⟩ | ⟨v, b', u, e1, e2, rv⟩
  · rw [e2]
    exact h x r _ (I.tok _) rx (.inr ⟨e1, rfl⟩)
  · rw [e2]
    exact h v u _ (I.tok _) rv (.inl e1)
/-- d[k] = v -/
theorem d_setN {A : Around} {E : Value → Shared → Prop} {a b : Addr} {xs : List EnV} {kvs : List (NestedKey × D)} {k : NestedKey} {v : V} {u : Value} {Q : Unit → Shared → Prop} (hu : A.in1.units + 8 < cLine) (I : Inv X pins σ H s) (e : H a = some (dctO a xs)) (dv : DV X.K O H xs kvs)
    (hk : keyOkK k) (hb : Dr X.K O H (.ref b) k.data) (rv : RelV v u) (hz : xs.length < sizeLine) (h : ∀ s', Inv X pins σ (upd H a (dctO a (putX xs k b v))) s' → Q () s') :
    wpAny (model X.prog X.w) A (setItem (.ref a) (.ref b) u) Q E s := by
  obtain ⟨a1, a2, a4, ys, re, d⟩ := od_of I e dv
  have hl : ys.length = xs.length := (Paired.length re).symm
  refine wpAny_setItem_heap (knd := nestedKind X.prog X.w) (k := k) (hsz := by omega) hu ⟨dr_key I k _ _ hk.1 hb rfl, hk.2⟩ d fun h' d' hs => ?_
  have he : ∃ q, h'.get? a = some q := let ⟨q, _, _, hq, _⟩ := d'; ⟨q, hq⟩
  exact h _ (d_write I (by rw [e]; exact True.intro) hs he (dctO_ok (dctφ_of a1 (by have := putX_len xs k b v; omega) (putX_keys a4 hk b v) (er_put re rv) d')))
/-- {} -/
theorem d_newN (I : Inv X pins σ H s) : Inv X pins σ (upd H s.heap.objs.size (dctO s.heap.objs.size [])) { s with heap := s.heap.push { cls := .type "dict", data := .dict #[] } } := by
  refine I.laid (t' := s.toks) (fun _ _ q => Heap.get?_push_of_some _ q) (Nat.le_refl _) (dctO_ok (dctφ_of (P := X.prog) (w := X.w) (ys := []) ?_ (Nat.zero_le _) nofun .nil (Heap.DictOfH.new _)))
  exact beq_eq_false_iff_ne.mpr (Ne.symm (Nat.ne_of_lt I.big))
end
end DL

set_option Elab.async false
set_option linter.all false
set_option maxRecDepth 100000
set_option maxHeartbeats 4000000
namespace DL
open PySem PySem.Spec PyProof.Rows L2
open PySem.W (sortingHeap sortingHeap_old list_sort_vals sortVals SortsAt)
open PySem.Calls (call_function_entry)
section
variable {X : Cx} {pins : List (Addr × Obj)} {σ : L2.St} {H : Hp} {s : Shared} {O : Addr → Prop}
/-- a new list, sorted -/
theorem sort_fin {A : Around} {E : Value → Shared → Prop} {h1 : Heap} {tk : Nat} {acc : List Value} {H' : Hp} {vs : List V} {ds : List D} {Q : VK}
    (I : Inv X pins σ H' { s with heap := h1, toks := tk }) (rv : Vals vs acc) (hd : DrA X.K O H' vs ds) (hp : DpAll X.K H' vs ds) (ok : sortOk ds) (hu : A.units + 65 < cLine) (dm : Dom O H') (q : AnsF X.K O H' Q (.list (sortD ds))) :
    wpAny (model X.prog X.w) A (call (.builtin "list.sort") [.ref h1.objs.size]) (fun _ s' => EP X pins σ Q (.ref h1.objs.size) s') E { s with heap := h1.push { cls := .type "list", data := .seq acc.toArray }, toks := tk } := by
  obtain ⟨ok1, ok2, ok3, ok4⟩ := ok
  have hl : vs.length = ds.length := hd.length
  have er := each_reads I rv hp
  have ev := each_vals rv hl
  have em : (vs.zip ds).map (fun p => p.2) = ds := zip_map_snd hl
  have hob : (h1.push { cls := .type "list", data := .seq acc.toArray }).get? h1.objs.size = some (seqObj "list" acc.toArray 0) := Heap.get?_push_size _ rfl
  have kb : ∀ b o, h1.get? b = some o → (h1.push { cls := .type "list", data := .seq acc.toArray }).get? b = some o := fun b o e => Heap.get?_push_of_some _ e
  have ne0 : ∀ b o, h1.get? b = some o → b ≠ h1.objs.size := fun b o e => Nat.ne_of_lt (Heap.lt_size e)
  have I2 := I.kept (h' := h1.push { cls := .type "list", data := .seq acc.toArray }) (t' := tk) kb
  generalize hh2 : h1.push { cls := .type "list", data := .seq acc.toArray } = h2 at hob kb ⊢
  have er' : PySem.W.EachIs (fun (u : Value) (p : V × D) => ∃ as, PySem.Reads (sortingHeap h2 h1.objs.size acc) u p.2 as) acc (vs.zip ds) := er.mono fun _ _ ⟨as, r⟩ => ⟨as, PyProof.Rows.Reads.keeps (fun b o e => sortingHeap_old (ne0 b o e) (kb b o e)) r⟩
  have hlen : acc.length = ds.length := by rw [← rv.length]; exact hl
  refine wpAny_call_entry slot_list_sort ⟨_, hob, rfl⟩ entry_list_sort (list_sort_vals (κ := PySem.W.dataKind (sortingHeap h2 h1.objs.size acc) ((vs.zip ds).map Prod.snd)) (s := { s with heap := h2, toks := tk }) hob (SortsAt.data (s := { s with heap := sortingHeap h2 h1.objs.size acc, toks := tk }) (PySem.W.each_map (R := fun v d => ∃ as, PySem.Reads (sortingHeap h2 h1.objs.size acc) v d as) Prod.snd er') (by rw [show (vs.zip ds).map Prod.snd = ds from em]; exact ok1) (by rw [show (vs.zip ds).map Prod.snd = ds from em]; exact ok2) fun d hd => ?_) (by rw [hlen]; exact ok3) ⟨.none, rfl, ?_⟩) (args_list_sort _)
  · rw [show (vs.zip ds).map Prod.snd = ds from em] at hd
    have := ok4 d hd
    show A.units + 1 + d.depth < cLine
    omega
  · show EP X pins σ Q (.ref h1.objs.size) { s with heap := sortedHeap h2 h1.objs.size acc (sortVals _ false acc acc).toArray, toks := tk }
    have eo := PySem.W.sortVals_data (R := fun (u : Value) (p : V × D) => RelV p.1 u) (enc := Prod.snd) false ev er' (by rw [show (vs.zip ds).map Prod.snd = ds from em]; exact ok1)
    generalize sortVals (PySem.W.dataKind (sortingHeap h2 h1.objs.size acc) ((vs.zip ds).map Prod.snd)) false acc acc = out at eo ⊢
    have kF : ∀ b o, h1.get? b = some o → (sortedHeap h2 h1.objs.size acc out.toArray).get? b = some o := fun b o e => (PyProof.Rows.sortedHeap_old (ne0 b o e) (Heap.lt_size (kb b o e))).trans (kb b o e)
    obtain ⟨eF, heF⟩ := PyProof.Rows.sortedHeap_at (vs := acc) (out := out.toArray) hob
    have I1 : Inv X pins σ H' { s with heap := sortedHeap h2 h1.objs.size acc out.toArray, toks := tk } := I.kept (t' := tk) kF
    have eD : ((vs.zip ds).mergeSort (PySem.W.dataLe false Prod.snd)).map Prod.snd = sortD ds := by
      have e0 := PySem.W.sort_maps (r := PySem.W.dataLe false Prod.snd) (s := ltD) (l := vs.zip ds) (Prod.snd : V × D → D) fun a _ b _ => rfl
      rw [e0, show (vs.zip ds).map Prod.snd = ds from em]
      rfl
    have hlen2 : (((vs.zip ds).mergeSort (PySem.W.dataLe false Prod.snd)).map Prod.fst).length ≤ sizeLine := by
      rw [List.length_map, List.length_mergeSort, List.length_zip]
      omega
    have hA : DrA X.K O H' (((vs.zip ds).mergeSort (PySem.W.dataLe false Prod.snd)).map Prod.fst) (sortD ds) := by
      rw [← eD]
      exact DrA.of_pairs fun p hp => hd.zip p (List.mem_mergeSort.mp hp)
    have fresh : H' h1.objs.size = none := I.hok.fresh (Nat.le_refl _)
    exact ⟨.ref h1.objs.size, upd H' h1.objs.size (.lst _), I1.take (h' := sortedHeap h2 h1.objs.size acc out.toArray) (t' := tk) (fun b ob _ e => e) (I.fpOk (Nat.le_refl _) fresh) ⟨hlen2, out, eF, vals_each eo, heF⟩, rfl, q.lst dm hA _ fresh⟩
/-! sorted(d.values()) -/
theorem sorted_view {A : Around} {E : Value → Shared → Prop} {r d n : Nat} {T : String} {Pr : Nat → Value → Prop} {OK : Heap → Prop} {Q : Value → Shared → Prop} (K : PySem.W.KdlSrc X.prog X.w T r d n Pr OK) (hh : A.in1.handled = none) (hok : OK s.heap) (hn : n ≤ sizeLine)
    (h : ∀ (h' : Heap) (tk : Nat) (acc : Array Value), (∀ b o, s.heap.get? b = some o → h'.get? b = some o) → ItemsOf Pr acc n →
      wpAny (model X.prog X.w) A.in1 (call (.builtin "list.sort") [.ref h'.objs.size]) (fun _ s' => Q (.ref h'.objs.size) s') E { s with heap := h'.push { cls := .type "list", data := .seq acc.toList.toArray }, toks := tk }) :
    wpAny (model X.prog X.w) A (call (.builtin "sorted") [.ref r]) Q E s := by
  refine call_function_entry kind_sorted plain_sorted entry_sorted (args_sorted1 _) ?_
  unfold Builtin.«sorted»
  refine wpAny_bind (m := checkCount "sorted" 1 1 _) (wpAny_pure ?_)
  refine wpAny_bind (PySem.W.kdu_collect (A := A.in1) K hh hok hn fun h' tk acc hk hi => ?_)
  refine wpAny_bind (wpAny_newList ?_ (by rw [Array.length_toList, hi.1]; exact hn))
  refine wpAny_bind (wpAny_holding (wpAny_mono (h h' tk acc hk hi) (fun _ s' x => ?_) fun _ _ e => e))
  exact wpAny_pure ⟨_, rfl, x⟩
/-! views -/
def valuesO (p d : Addr) : HO := .ext fun h => h.IsValuesView p d
theorem valuesO_ok {P : Program} {w : World} {H : Hp} {h : Heap} {p d : Addr} (e : h.get? p = some { cls := .type "dict_values", data := .fields #[.ref d] }) : ObjOk P w H h p (valuesO p d) :=
  ⟨⟨_, e, rfl, rfl⟩, ⟨_, e⟩, fun h1 h2 x k => let ⟨o, ho, r⟩ := x; ⟨o, k o ho, r⟩⟩
def viewO (it : Bool) (p d : Addr) : HO := if it = true then L2.DX.itemsO p d else valuesO p d
/-- what sorted(d.values()), sorted(d.items()) sort -/
def viewD (it : Bool) (kvs : List (NestedKey × D)) : List D := if it = true then kvs.map fun p => PyData.tuple [p.1.data, p.2] else kvs.map (·.2)
theorem dv_length {K : PySem.W.Frag} {xs : List EnV} {kvs : List (NestedKey × D)} (h : DV K O H xs kvs) : xs.length = kvs.length := Paired.length h
theorem dv_get {K : PySem.W.Frag} {xs : List EnV} {kvs : List (NestedKey × D)} (h : DV K O H xs kvs) : ∀ {i : Nat} {x : EnV}, xs[i]? = some x → ∃ p, kvs[i]? = some p ∧ x.1 = p.1 ∧ Dr K O H (.ref x.2.1) p.1.data ∧ Dr K O H x.2.2 p.2 := by
  induction h with
  | nil => intro i x e; simp at e
  | cons h1 _ ih =>
    intro i x e
    cases i with
    | zero => simp at e; subst e; exact ⟨_, rfl, h1⟩
    | succ i => simpa using ih (i := i) (by simpa using e)
theorem er_get {xs : List EnV} {ys : List EnU} (h : Paired EnR xs ys) : ∀ {i : Nat} {x : EnV}, xs[i]? = some x → ∃ y, ys[i]? = some y ∧ EnR x y := by
  induction h with
  | nil => intro i x e; simp at e
  | cons h1 _ ih =>
    intro i x e
    cases i with
    | zero => simp at e; subst e; exact ⟨_, rfl, h1⟩
    | succ i => simpa using ih (i := i) (by simpa using e)
theorem vals_of_get : ∀ {vs : List V} {us : List Value}, vs.length = us.length → (∀ (i : Nat) (v : V) (u : Value), vs[i]? = some v → us[i]? = some u → RelV v u) → Vals vs us
  | [], [], _, _ => .nil
  | [], _ :: _, h, _ => by simp at h
  | _ :: _, [], h, _ => by simp at h
  | v :: vs, u :: us, h, q => .cons (q 0 v u rfl rfl) (vals_of_get (by simpa using h) fun i v' u' h1 h2 => q (i + 1) v' u' (by simpa using h1) (by simpa using h2))
theorem dra_of_get {K : PySem.W.Frag} : ∀ {vs : List V} {ds : List D}, vs.length = ds.length → (∀ (i : Nat) (v : V) (d : D), vs[i]? = some v → ds[i]? = some d → Dr K O H v d) → DrA K O H vs ds
  | [], [], _, _ => .nil
  | [], _ :: _, h, _ => by simp at h
  | _ :: _, [], h, _ => by simp at h
  | v :: vs, u :: us, h, q => .cons (q 0 v u rfl rfl) (dra_of_get (by simpa using h) fun i v' u' h1 h2 => q (i + 1) v' u' (by simpa using h1) (by simpa using h2))
end
section
variable {X : Cx}
def rSortView (K : PySem.W.Frag) (it : Bool) : List V → Hp → VK → Prop := fun vs H Q => ∃ (p a : Addr) (O : Addr → Prop) (xs : List EnV) (kvs : List (NestedKey × D)), vs = [.ref p] ∧ H p = some (viewO it p a) ∧ H a = some (dctO a xs) ∧ Dom O H ∧ DV K O H xs kvs ∧ sortOk (viewD it kvs) ∧
  AnsF K O H Q (.list (sortD (viewD it kvs)))
theorem cr_sortVals (hc : X.calm = true) (hu : X.A.units + 66 < cLine) : CallR X (.builtin "sorted") (rSortView X.K false) := by
  intro pins s σ H vs us Q I r h
  obtain ⟨p, a, O, xs, kvs, rfl, hp, ha, dm, dv, ok, q⟩ := h
  obtain rfl := Vals.ref1 r
  have view : s.heap.IsValuesView p a := (show ObjOk X.prog X.w H s.heap p (valuesO p a) from I.hok p _ hp).1
  obtain ⟨a1, a2, a4, ys, re, o, es, ep, ho, hx, hdat, hes, his, hn⟩ := od_of I ha dv
  have l1 := dv_length dv
  have l2 : xs.length = ys.length := Paired.length re
  have l3 : es.size = ys.length := size_of_entries hes
  refine sorted_view (PySem.KdlSrc.rawValues (es := es) (ep := ep)) (I.ok.hd hc) ⟨view, o, ho, hx, hdat⟩ (by omega) fun h' tk acc hk hi => ?_
  have I1 : Inv X pins σ H { s with heap := h', toks := tk } := I.kept (t' := tk) hk
  have rv : Vals (xs.map (·.2.2)) acc.toList := vals_of_get (by have := hi.1; have e : acc.toList.length = acc.size := Array.length_toList; rw [List.length_map, e]; omega) fun i v u h1 h2 => by
    rw [List.getElem?_map] at h1
    cases hxi : xs[i]? with
    | none => rw [hxi] at h1; cases h1
    | some x =>
      rw [hxi] at h1
      cases h1
      obtain ⟨y, hy, er⟩ := er_get re hxi
      obtain ⟨hlt, eu⟩ := hi.2 i u (by rw [← Array.getElem?_toList]; exact h2)
      have e := entry_at hes i
      rw [hy, Array.getElem?_eq_getElem hlt] at e
      rw [eu, Option.some.inj e]
      exact er.2.2
  have hd : DrA X.K O H (xs.map (·.2.2)) (viewD false kvs) := dra_of_get (by show _ = (kvs.map _).length; rw [List.length_map, List.length_map]; omega) fun i v d h1 h2 => by
    rw [List.getElem?_map] at h1
    cases hxi : xs[i]? with
    | none => rw [hxi] at h1; cases h1
    | some x =>
      rw [hxi] at h1
      cases h1
      obtain ⟨pp, hpp, _, _, e3⟩ := dv_get dv hxi
      have h2 : (kvs.map (·.2))[i]? = some d := h2
      rw [List.getElem?_map, hpp] at h2
      cases h2
      exact e3
  exact sort_fin I1 rv hd (DrA.dp _ _ hd) ok (by show X.A.units + 1 + 65 < cLine; omega) dm q
theorem cr_sortItems (hc : X.calm = true) (hu : X.A.units + 66 < cLine) : CallR X (.builtin "sorted") (rSortView X.K true) := by
  intro pins s σ H vs us Q I r h
  obtain ⟨p, a, O, xs, kvs, rfl, hp, ha, dm, dv, ok, q⟩ := h
  obtain rfl := Vals.ref1 r
  have view : s.heap.IsItemsView p a := (show ObjOk X.prog X.w H s.heap p (L2.DX.itemsO p a) from I.hok p _ hp).1
  obtain ⟨a1, a2, a4, ys, re, o, es, ep, ho, hx, hdat, hes, his, hn⟩ := od_of I ha dv
  have l1 := dv_length dv
  have l2 : xs.length = ys.length := Paired.length re
  have l3 : es.size = ys.length := size_of_entries hes
  refine DT.sortedI (es := es) (ep := ep) (I.ok.hd hc) view ⟨o, ho, hx, hdat⟩ (by omega) fun h' tk as hk hlt hl hG => ?_
  have I1 : Inv X pins σ H { s with heap := h', toks := tk } := I.kept (t' := tk) hk
  have nd : as.Nodup := List.Pairwise.imp (fun h => Nat.ne_of_lt h) hG.rise
  have pr : ∀ (j : Nat) (b : Addr), as[j]? = some b → ∃ x p, xs[j]? = some x ∧ kvs[j]? = some p ∧ Dr X.K O H (.ref x.2.1) p.1.data ∧ Dr X.K O H x.2.2 p.2 ∧ ∃ u, RelV x.2.2 u ∧ h'.get? b = some { cls := .type "tuple", data := .seq #[Value.ref x.2.1, u] } := by
    intro j b hj
    obtain ⟨en, he, hg⟩ := hG.pairs j b hj
    have hjx : j < xs.length := by have := (List.getElem?_eq_some_iff.mp hj).1; omega
    obtain ⟨y, hy, er⟩ := er_get re (List.getElem?_eq_getElem hjx)
    obtain ⟨pp, hpp, _, e2, e3⟩ := dv_get dv (List.getElem?_eq_getElem hjx)
    rw [entry_at hes j, hy] at he
    have een := Option.some.inj he
    refine ⟨_, pp, List.getElem?_eq_getElem hjx, hpp, e2, e3, y.2.2, er.2.2, ?_⟩
    rw [hg, ← een, er.2.1]
    all_goals rfl
  obtain ⟨H2, I3, g, qt⟩ := L2.DX.takeT (P := fun b vs => ∃ (j : Nat) (x : EnV), as[j]? = some b ∧ xs[j]? = some x ∧ vs = [.ref x.2.1, x.2.2]) I as H I1 nd fun b hb => by
    obtain ⟨j, hj⟩ := List.mem_iff_getElem?.mp hb
    obtain ⟨x, pp, hxj, _, _, _, u, ru, hg⟩ := pr j b hj
    have hbl : s.heap.objs.size ≤ b := Nat.le_of_lt (hG.above b hb)
    exact ⟨hbl, I.hok.fresh hbl, [.ref x.2.1, x.2.2], ⟨j, x, hj, hxj, rfl⟩, fun H3 => ⟨(by show 2 ≤ sizeLine; decide), [Value.ref x.2.1, u], .cons rfl (.cons ru .nil), ⟨_, hg, rfl, 0, rfl⟩⟩⟩
  have sm : Same H H2 := fun b o e => g b o e
  have dm2 : Dom O H2 := fun b hb => let ⟨o, e⟩ := dm b hb; ⟨o, g b o e⟩
  have hd : DrA X.K O H2 (as.map V.ref) (viewD true kvs) := dra_of_get (by show _ = (kvs.map _).length; rw [List.length_map, List.length_map]; omega) fun i v d h1 h2 => by
    rw [List.getElem?_map] at h1
    cases hai : as[i]? with
    | none => rw [hai] at h1; cases h1
    | some b =>
      rw [hai] at h1
      cases h1
      obtain ⟨x, pp, hxi, hpp, e2, e3, _⟩ := pr i b hai
      have h2 : (kvs.map fun p => PyData.tuple [p.1.data, p.2])[i]? = some d := h2
      rw [List.getElem?_map, hpp] at h2
      cases h2
      obtain ⟨vs, ⟨j, x', j1, j2, ev⟩, hH⟩ := qt b (List.mem_of_getElem? hai)
      have eij : i = j := (List.getElem?_inj (List.getElem?_eq_some_iff.mp hai).1 nd).mp (hai.trans j1.symm)
      subst eij
      rw [hxi] at j2
      cases j2
      subst ev
      have hnO : ¬ O b := fun z => by
        obtain ⟨o', e'⟩ := dm b z
        have hb := I.hok.fresh (Nat.le_of_lt (hG.above b (List.mem_of_getElem? hai)))
        rw [hb] at e'; cases e'
      exact .tup (.inl ⟨hH, hnO⟩) (.cons (e2.same sm) (.cons (e3.same sm) .nil))
  have rv : Vals (as.map V.ref) (as.map Value.ref) := vals_of_get (by simp) fun i v u h1 h2 => by
    rw [List.getElem?_map] at h1 h2
    cases hai : as[i]? with
    | none => rw [hai] at h1; cases h1
    | some b => rw [hai] at h1 h2; cases h1; cases h2; rfl
  refine wpAny_mono (sort_fin I3 rv hd (DrA.dp _ _ hd) ok (by show X.A.units + 1 + 65 < cLine; omega) dm2 (Q := Q) ?_) (fun _ _ x => x) fun _ _ e => e
  intro v H' s' d' f'
  exact q v H' (fun b o e => s' b o (sm b o e)) d' fun ds e => by
    obtain ⟨p', xs', r1, r2, r3, r4⟩ := f' ds e
    refine ⟨p', xs', r1, ?_, r3, r4⟩
    cases hp' : H p' with
    | none => rfl
    | some o' => rw [sm p' o' hp'] at r2; cases r2
end
end DL

set_option Elab.async false
set_option linter.all false
set_option maxRecDepth 100000
set_option maxHeartbeats 4000000
namespace DL
open PySem PySem.Spec PyProof.Rows L2

/-! ### a frame over data -/
/-- a slot: data that stand, a list that the frame owns, the draw -/
inductive Sl where
  | fz (d : D)
  | ow (d : D)
  | dr
  | od (kvs : List (NestedKey × D))
  | lk (a : Addr) (xs : List V) (ds : List D)
def Sl.isOw : Sl → Bool
  | .ow _ => true
  | .od _ => true
  | .lk _ _ _ => true
  | _ => false
abbrev Rho := List (Option Sl)
/-- what is fixed for a frame: what its callers own, the draw's list, what stood -/
structure Fm where
  O0 : Addr → Prop
  dA : Option Addr
  dC : Addr
  H0 : Hp
def DrawOk (K : PySem.W.Frag) (O : Addr → Prop) (H : Hp) (a c : Addr) : Prop :=
  ∃ (cells : List Int) (i cur seed : Int), H a = some (.lst [.ref c, .int i, .int cur, .int seed]) ∧ H c = some (.lst (cells.map V.int)) ∧ ¬ O c ∧ c ≠ a ∧ (∀ x ∈ cells, 0 ≤ x) ∧ cells.length ≤ 63 ∧ -1 ≤ i ∧ 0 ≤ cur ∧ 0 ≤ seed ∧ seed < 2147483647
def OwR (K : PySem.W.Frag) (O : Addr → Prop) (H : Hp) (a : Addr) (d : D) : Prop := ∃ xs ds, d = .list ds ∧ H a = some (.lst xs) ∧ DrA K O H xs ds
def SlotR (K : PySem.W.Frag) (F : Fm) (O : Addr → Prop) (H : Hp) (v : V) : Sl → Prop
  | .fz d => Dr K O H v d
  | .ow d => ∃ a, v = .ref a ∧ O a ∧ ¬ F.O0 a ∧ OwR K O H a d
  | .dr => ∃ a, F.dA = some a ∧ v = .ref a
  | .od kvs => ∃ a, v = .ref a ∧ O a ∧ ¬ F.O0 a ∧ OdR K O H a kvs
  | .lk a xs ds => v = .ref a ∧ O a ∧ ¬ F.O0 a ∧ H a = some (.lst xs) ∧ DrA K O H xs ds
structure EnvR (K : PySem.W.Frag) (F : Fm) (O : Addr → Prop) (H : Hp) (σ : L2.St) (ρ : Rho) : Prop where
  len : σ.length = ρ.length
  slot : ∀ (i : Nat) (s : Sl), ρ[i]? = some (some s) → ∃ v, σ[i]? = some (some v) ∧ SlotR K F O H v s
  sep : ∀ (i j : Nat) (s t : Sl) (a : Addr), s.isOw = true → t.isOw = true → ρ[i]? = some (some s) → ρ[j]? = some (some t) → σ[i]? = some (some (.ref a)) → σ[j]? = some (some (.ref a)) → i = j
  sub : ∀ a, F.O0 a → O a
  dom : Dom O H
  unp : ∀ a, O a → ¬ F.O0 a → F.H0 a = none
  keep : ∀ b o, F.dA ≠ some b → F.H0 b = some o → H b = some o
  drw : ∀ a, F.dA = some a → F.O0 a ∧ DrawOk K O H a F.dC
/-- a step of an expression: all that stood stands, but the draw may have turned -/
structure Stp (K : PySem.W.Frag) (F : Fm) (O : Addr → Prop) (H H' : Hp) : Prop where
  keep : ∀ b o, F.dA ≠ some b → H b = some o → H' b = some o
  drw : ∀ a, F.dA = some a → DrawOk K O H' a F.dC
section
variable {K : PySem.W.Frag} {F : Fm} {O O' : Addr → Prop} {H H' H1 H2 : Hp} {σ : L2.St} {ρ : Rho} {v : V} {d : D}
theorem Stp.refl (e : EnvR K F O H σ ρ) : Stp K F O H H := ⟨fun _ _ _ h => h, fun a h => (e.drw a h).2⟩
theorem Stp.trans (a : Stp K F O H H1) (b : Stp K F O H1 H2) : Stp K F O H H2 := ⟨fun c o n h => b.keep c o n (a.keep c o n h), b.drw⟩
theorem DrawOk.same {a c : Addr} (h : DrawOk K O H a c) (s : Same H H') : DrawOk K O H' a c := by
  obtain ⟨cells, i, cur, seed, h1, h2, h3⟩ := h
  exact ⟨cells, i, cur, seed, s _ _ h1, s _ _ h2, h3⟩
theorem Stp.same (e : EnvR K F O H σ ρ) (s : Same H H') : Stp K F O H H' := ⟨fun b o _ h => s b o h, fun a h => (e.drw a h).2.same s⟩
theorem EnvR.nd (e : EnvR K F O H σ ρ) {b : Addr} (h : ¬ O b) : F.dA ≠ some b := fun q => h (e.sub b (e.drw b q).1)
theorem EnvR.ndo (e : EnvR K F O H σ ρ) {b : Addr} (h : ¬ F.O0 b) : F.dA ≠ some b := fun q => h (e.drw b q).1
theorem Dr.stp (e : EnvR K F O H σ ρ) (h : Dr K O H v d) (s : Stp K F O H H') : Dr K O H' v d := Dr.stay (fun _ _ _ n => n) (fun b o n q => s.keep b o (e.nd n) q) d v h
theorem DrA.stp {vs : List V} {ds : List D} (e : EnvR K F O H σ ρ) (h : DrA K O H vs ds) (s : Stp K F O H H') : DrA K O H' vs ds := DrA.stay (fun _ _ _ n => n) (fun b o n q => s.keep b o (e.nd n) q) ds vs h
theorem BDr.stp (e : EnvR K F O H σ ρ) (h : BDr K F.O0 O H v d) (s : Stp K F O H H') : BDr K F.O0 O H' v d := by
  rcases h with h | ⟨a, xs, ds, rfl, rfl, n, h1, h2⟩
  · exact .inl (h.stp e s)
  · exact .inr ⟨a, xs, ds, rfl, rfl, n, s.keep _ _ (e.ndo n) h1, h2.stp e s⟩
theorem Stp.free (e : EnvR K F O H σ ρ) (s : Stp K F O H H') {p : Addr} (h : H' p = none) : H p = none := by
  cases q : H p with
  | none => rfl
  | some o =>
    by_cases hd : F.dA = some p
    · obtain ⟨cells, i, cur, seed, h1, _⟩ := s.drw p hd
      rw [h] at h1; cases h1
    · rw [s.keep p o hd q] at h; cases h
theorem SlotR.stp {s : Sl} (e : EnvR K F O H σ ρ) (h : SlotR K F O H v s) (st : Stp K F O H H') : SlotR K F O H' v s := by
  cases s with
  | fz d => exact Dr.stp e h st
  | dr => exact h
  | ow d =>
    obtain ⟨a, rfl, h1, h2, xs, ds, rfl, h3, h4⟩ := h
    exact ⟨a, rfl, h1, h2, xs, ds, rfl, st.keep _ _ (e.ndo h2) h3, h4.stp e st⟩
  | od kvs =>
    obtain ⟨a, rfl, h1, h2, h3⟩ := h
    exact ⟨a, rfl, h1, h2, h3.map (fun o q => st.keep _ _ (e.ndo h2) q) fun v d q => Dr.stp e q st⟩
  | lk a xs ds =>
    obtain ⟨rfl, h1, h2, h3, h4⟩ := h
    exact ⟨rfl, h1, h2, st.keep _ _ (e.ndo h2) h3, h4.stp e st⟩
theorem EnvR.stp (e : EnvR K F O H σ ρ) (s : Stp K F O H H') : EnvR K F O H' σ ρ where
  len := e.len
  slot := fun i x h => by
    obtain ⟨v, h1, h2⟩ := e.slot i x h
    exact ⟨v, h1, h2.stp e s⟩
  sep := e.sep
  sub := e.sub
  dom := fun a h => by
    by_cases hd : F.dA = some a
    · obtain ⟨cells, i, cur, seed, h1, _⟩ := s.drw a hd
      exact ⟨_, h1⟩
    · obtain ⟨o, h1⟩ := e.dom a h
      exact ⟨o, s.keep a o hd h1⟩
  unp := e.unp
  keep := fun b o n h => s.keep b o n (e.keep b o n h)
  drw := fun a h => ⟨(e.drw a h).1, s.drw a h⟩
/-- a name's value, read -/
theorem EnvR.fz (e : EnvR K F O H σ ρ) {i : Nat} (h : ρ[i]? = some (some (.fz d))) : ∃ v, σ[i]? = some (some v) ∧ Dr K O H v d := e.slot i _ h
theorem EnvR.ow (e : EnvR K F O H σ ρ) {i : Nat} (h : ρ[i]? = some (some (.ow d))) : ∃ a xs ds, d = .list ds ∧ σ[i]? = some (some (.ref a)) ∧ O a ∧ ¬ F.O0 a ∧ H a = some (.lst xs) ∧ DrA K O H xs ds := by
  obtain ⟨v, h1, a, rfl, h2, h3, xs, ds, rfl, h4, h5⟩ := e.slot i _ h
  exact ⟨a, xs, ds, rfl, h1, h2, h3, h4, h5⟩
theorem EnvR.owB (e : EnvR K F O H σ ρ) {i : Nat} (h : ρ[i]? = some (some (.ow d))) : ∃ v, σ[i]? = some (some v) ∧ BDr K F.O0 O H v d := by
  obtain ⟨a, xs, ds, rfl, h1, h2, h3, h4, h5⟩ := e.ow h
  exact ⟨.ref a, h1, .inr ⟨a, xs, ds, rfl, rfl, h3, h4, h5⟩⟩

/-! ### slots stored -/
theorem get_set {α : Type} {l : List α} {i j : Nat} {x y : α} (h : (l.set i x)[j]? = some y) : (j = i ∧ y = x ∧ i < l.length) ∨ (j ≠ i ∧ l[j]? = some y) := by
  by_cases hj : j = i
  · subst hj
    by_cases hl : j < l.length
    · rw [List.getElem?_set_self hl] at h
      exact .inl ⟨rfl, (Option.some.inj h).symm, hl⟩
    · rw [List.getElem?_eq_none (by simpa using hl)] at h; cases h
  · rw [List.getElem?_set_ne (Ne.symm hj)] at h
    exact .inr ⟨hj, h⟩
/-- a name is bound to data -/
theorem EnvR.set (e : EnvR K F O H σ ρ) {i : Nat} (h : Dr K O H v d) : EnvR K F O H (σ.set i (some v)) (ρ.set i (some (.fz d))) where
  len := by rw [List.length_set, List.length_set]; exact e.len
  slot := fun j s q => by
    rcases get_set q with ⟨rfl, e2, hl⟩ | ⟨hj, q⟩
    · cases e2
      exact ⟨v, by rw [List.getElem?_set_self (by rw [e.len]; exact hl)], h⟩
    · obtain ⟨w, h1, h2⟩ := e.slot j s q
      exact ⟨w, by rw [List.getElem?_set_ne (Ne.symm hj)]; exact h1, h2⟩
  sep := fun j k d' e' a o1 o2 q1 q2 q3 q4 => by
    rcases get_set q1 with ⟨_, e2, _⟩ | ⟨hj, q1⟩
    · cases e2 <;> cases o1
    rcases get_set q2 with ⟨_, e2, _⟩ | ⟨hk, q2⟩
    · cases e2 <;> cases o2
    rw [List.getElem?_set_ne (Ne.symm hj)] at q3
    rw [List.getElem?_set_ne (Ne.symm hk)] at q4
    exact e.sep j k d' e' a o1 o2 q1 q2 q3 q4
  sub := e.sub
  dom := e.dom
  unp := e.unp
  keep := e.keep
  drw := e.drw
/-- a name is forgotten -/
theorem EnvR.unset (e : EnvR K F O H σ ρ) {i : Nat} (x : Option V) : EnvR K F O H (σ.set i x) (ρ.set i none) where
  len := by rw [List.length_set, List.length_set]; exact e.len
  slot := fun j s q => by
    rcases get_set q with ⟨rfl, e2, hl⟩ | ⟨hj, q⟩
    · cases e2
    · obtain ⟨w, h1, h2⟩ := e.slot j s q
      exact ⟨w, by rw [List.getElem?_set_ne (Ne.symm hj)]; exact h1, h2⟩
  sep := fun j k d' e' a o1 o2 q1 q2 q3 q4 => by
    rcases get_set q1 with ⟨_, e2, _⟩ | ⟨hj, q1⟩
    · cases e2 <;> cases o1
    rcases get_set q2 with ⟨_, e2, _⟩ | ⟨hk, q2⟩
    · cases e2 <;> cases o2
    rw [List.getElem?_set_ne (Ne.symm hj)] at q3
    rw [List.getElem?_set_ne (Ne.symm hk)] at q4
    exact e.sep j k d' e' a o1 o2 q1 q2 q3 q4
  sub := e.sub
  dom := e.dom
  unp := e.unp
  keep := e.keep
  drw := e.drw
/-- the heap grows by a new list that the frame is to own -/
theorem EnvR.own (e : EnvR K F O H σ ρ) {i : Nat} {p : Addr} {xs : List V} {ds : List D} (st : Stp K F O H H') (hp : H p = none) (hp' : H' p = some (.lst xs)) (h : DrA K (fun a => O a ∨ a = p) H' xs ds) :
    EnvR K F (fun a => O a ∨ a = p) H' (σ.set i (some (.ref p))) (ρ.set i (some (.ow (.list ds)))) := by
  have e' := e.stp st
  have np : ¬ O p := e.dom.fresh hp
  have up : ∀ {v : V} {d : D}, Dr K O H v d → Dr K (fun a => O a ∨ a = p) H' v d := fun {v d} hd =>
    Dr.stay (fun a o hq n q => by
      rcases q with q | q
      · exact n q
      · rw [q, hp] at hq; cases hq) (fun b o n q => st.keep b o (e.nd n) q) d v hd
  have upA : ∀ {v : List V} {d : List D}, DrA K O H v d → DrA K (fun a => O a ∨ a = p) H' v d := fun {v d} hd =>
    DrA.stay (fun a o hq n q => by
      rcases q with q | q
      · exact n q
      · rw [q, hp] at hq; cases hq) (fun b o n q => st.keep b o (e.nd n) q) d v hd
  have nO : ¬ F.O0 p := fun q => np (e.sub p q)
  refine ⟨by rw [List.length_set, List.length_set]; exact e.len, fun j s q => ?_, fun j k d' e2 a o1 o2 q1 q2 q3 q4 => ?_, fun a h => .inl (e.sub a h), fun a h => ?_, fun a h n => ?_, e'.keep, fun a h => ?_⟩
  · rcases get_set q with ⟨rfl, e2, hl⟩ | ⟨hj, q⟩
    · cases e2
      exact ⟨.ref p, by rw [List.getElem?_set_self (by rw [e.len]; exact hl)], p, rfl, .inr rfl, nO, xs, ds, rfl, hp', h⟩
    · obtain ⟨w, h1, h2⟩ := e.slot j s q
      refine ⟨w, by rw [List.getElem?_set_ne (Ne.symm hj)]; exact h1, ?_⟩
      cases s with
      | fz d => exact up h2
      | dr => exact h2
      | ow d =>
        obtain ⟨a, rfl, h3, h4, ys, es, rfl, h5, h6⟩ := h2
        exact ⟨a, rfl, .inl h3, h4, ys, es, rfl, st.keep _ _ (e.ndo h4) h5, upA h6⟩
      | od kvs =>
        obtain ⟨a, rfl, h3, h4, h5⟩ := h2
        exact ⟨a, rfl, .inl h3, h4, h5.map (fun o q => st.keep _ _ (e.ndo h4) q) fun v d q => up q⟩
      | lk a xs ds =>
        obtain ⟨rfl, h3, h4, h5, h6⟩ := h2
        exact ⟨rfl, .inl h3, h4, st.keep _ _ (e.ndo h4) h5, upA h6⟩
  · have fresh : ∀ {m : Nat} {f : Sl}, f.isOw = true → ρ[m]? = some (some f) → σ[m]? = some (some (.ref p)) → False := fun {m f} ho h1 h2 => by
      have g2 : O p := by
        obtain ⟨w, g1, g2⟩ := e.slot m _ h1
        rw [h2] at g1
        cases g1
        cases f with
        | ow f => obtain ⟨b, e1, g2, _⟩ := g2; cases e1; exact g2
        | od f => obtain ⟨b, e1, g2, _⟩ := g2; cases e1; exact g2
        | lk _ _ _ => obtain ⟨e1, g2, _⟩ := g2; cases e1; exact g2
        | _ => cases ho
      exact np g2
    have hlen : ∀ {m : Nat}, m = i → m < ρ.length → (σ.set i (some (V.ref p)))[m]? = some (some (V.ref p)) := fun {m} hm hl => by
      rw [hm, List.getElem?_set_self (by rw [e.len, ← hm]; exact hl)]
    rcases get_set q1 with ⟨ej, e3, hl⟩ | ⟨hj, q1⟩
    · rcases get_set q2 with ⟨ek, e4, _⟩ | ⟨hk, q2⟩
      · rw [ej, ek]
      · rw [hlen ej (by rw [ej]; exact hl)] at q3
        cases q3
        rw [List.getElem?_set_ne (Ne.symm hk)] at q4
        exact (fresh o2 q2 q4).elim
    · rcases get_set q2 with ⟨ek, e4, hl⟩ | ⟨hk, q2⟩
      · rw [hlen ek (by rw [ek]; exact hl)] at q4
        cases q4
        rw [List.getElem?_set_ne (Ne.symm hj)] at q3
        exact (fresh o1 q1 q3).elim
      · rw [List.getElem?_set_ne (Ne.symm hj)] at q3
        rw [List.getElem?_set_ne (Ne.symm hk)] at q4
        exact e.sep j k d' e2 a o1 o2 q1 q2 q3 q4
  · rcases h with h | rfl
    · exact e'.dom a h
    · exact ⟨_, hp'⟩
  · rcases h with h | rfl
    · exact e.unp a h n
    · cases q : F.H0 a with
      | none => rfl
      | some o =>
        by_cases hd : F.dA = some a
        · exact absurd (e.drw a hd).1 n
        · rw [e.keep a o hd q] at hp; cases hp
  · obtain ⟨h1, cells, i', cur, seed, g1, g2, g3, g4⟩ := e'.drw a h
    refine ⟨h1, cells, i', cur, seed, g1, g2, fun q => ?_, g4⟩
    rcases q with q | q
    · exact g3 q
    · obtain ⟨_, cells0, i0, cur0, seed0, k1, k2, _⟩ := e.drw a h
      rw [q, hp] at k2; cases k2
/-- a list of the frame's own changes -/
theorem EnvR.mut (e : EnvR K F O H σ ρ) {i : Nat} {a : Addr} {d : D} {xs : List V} {ds : List D} (hi : ρ[i]? = some (some (.ow d))) (hs : σ[i]? = some (some (.ref a))) (h : DrA K O H xs ds) :
    EnvR K F O (upd H a (.lst xs)) σ (ρ.set i (some (.ow (.list ds)))) := by
  obtain ⟨v, h1, a', rfl, h2, h3, xs0, ds0, rfl, h4, h5⟩ := e.slot i _ hi
  rw [hs] at h1
  cases h1
  have kp : ∀ b o, ¬ O b → H b = some o → (upd H a (.lst xs)) b = some o := fun b o n q => by
    rw [upd_ne (fun z => n (by rw [z]; exact h2))]
    exact q
  have up : ∀ {v : V} {d : D}, Dr K O H v d → Dr K O (upd H a (.lst xs)) v d := fun {v d} hd => Dr.stay (fun _ _ _ n => n) kp d v hd
  have upA : ∀ {v : List V} {d : List D}, DrA K O H v d → DrA K O (upd H a (.lst xs)) v d := fun {v d} hd => DrA.stay (fun _ _ _ n => n) kp d v hd
  have nda : F.dA ≠ some a := e.ndo h3
  refine ⟨by rw [List.length_set]; exact e.len, fun j s q => ?_, fun j k d' e2 b o1 o2 q1 q2 q3 q4 => ?_, e.sub, fun b hb => ?_, e.unp, fun b o n hb => ?_, fun b hb => ?_⟩
  · rcases get_set q with ⟨rfl, e2, hl⟩ | ⟨hj, q⟩
    · cases e2
      exact ⟨.ref a, hs, a, rfl, h2, h3, xs, ds, rfl, upd_same, upA h⟩
    · obtain ⟨w, g1, g2⟩ := e.slot j s q
      refine ⟨w, g1, ?_⟩
      cases s with
      | fz d => exact up g2
      | dr => exact g2
      | ow d =>
        obtain ⟨b, rfl, g3, g4, ys, es, rfl, g5, g6⟩ := g2
        have nb : b ≠ a := fun z => hj (by
          subst z
          exact e.sep j i _ _ b rfl rfl q hi g1 hs)
        exact ⟨b, rfl, g3, g4, ys, es, rfl, by rw [upd_ne nb]; exact g5, upA g6⟩
      | od kvs =>
        obtain ⟨b, rfl, g3, g4, g5⟩ := g2
        have nb : b ≠ a := fun z => hj (by
          subst z
          exact e.sep j i _ _ b rfl rfl q hi g1 hs)
        exact ⟨b, rfl, g3, g4, g5.map (fun o q => by rw [upd_ne nb]; exact q) fun v d q => up q⟩
      | lk b ys es =>
        obtain ⟨rfl, g3, g4, g5, g6⟩ := g2
        have nb : b ≠ a := fun z => hj (by
          subst z
          exact e.sep j i _ _ b rfl rfl q hi g1 hs)
        exact ⟨rfl, g3, g4, by rw [upd_ne nb]; exact g5, upA g6⟩
  · have back : ∀ {m : Nat} {f : Sl}, f.isOw = true → (ρ.set i (some (.ow (.list ds))))[m]? = some (some f) → ∃ f' : Sl, f'.isOw = true ∧ ρ[m]? = some (some f') := fun {m f} ho hm => by
      rcases get_set hm with ⟨rfl, _, _⟩ | ⟨_, q⟩
      · exact ⟨_, rfl, hi⟩
      · exact ⟨_, ho, q⟩
    obtain ⟨f1, o1, q1⟩ := back o1 q1
    obtain ⟨f2, o2, q2⟩ := back o2 q2
    exact e.sep j k f1 f2 b o1 o2 q1 q2 q3 q4
  · by_cases hba : b = a
    · subst hba; exact ⟨_, upd_same⟩
    · rw [upd_ne hba]; exact e.dom b hb
  · have hba : b ≠ a := fun z => by
      rw [z, e.unp a h2 h3] at hb; cases hb
    rw [upd_ne hba]
    exact e.keep b o n hb
  · obtain ⟨g1, cells, i', cur, seed, k1, k2, k3, k4⟩ := e.drw b hb
    have nb : b ≠ a := fun z => nda (by rw [← z]; exact hb)
    have nc : F.dC ≠ a := fun z => k3 (by rw [z]; exact h2)
    exact ⟨g1, cells, i', cur, seed, by rw [upd_ne nb]; exact k1, by rw [upd_ne nc]; exact k2, k3, k4⟩
/-- a list of the frame's own is walked: it stays as it is -/
theorem EnvR.turnS (e : EnvR K F O H σ ρ) {i : Nat} {s t : Sl} (hi : ρ[i]? = some (some s)) (hs : s.isOw = true) (h : ∀ v, σ[i]? = some (some v) → SlotR K F O H v s → SlotR K F O H v t) : EnvR K F O H σ (ρ.set i (some t)) where
  len := by rw [List.length_set]; exact e.len
  slot := fun j u q => by
    rcases get_set q with ⟨rfl, e2, hl⟩ | ⟨hj, q⟩
    · cases e2
      obtain ⟨v, h1, h2⟩ := e.slot j _ hi
      exact ⟨v, h1, h v h1 h2⟩
    · exact e.slot j u q
  sep := fun j k u w a o1 o2 q1 q2 q3 q4 => by
    have back : ∀ {m : Nat} {f : Sl}, f.isOw = true → (ρ.set i (some t))[m]? = some (some f) → ∃ f' : Sl, f'.isOw = true ∧ ρ[m]? = some (some f') := fun {m f} ho hm => by
      rcases get_set hm with ⟨rfl, _, _⟩ | ⟨_, q⟩
      · exact ⟨_, hs, hi⟩
      · exact ⟨_, ho, q⟩
    obtain ⟨f1, o1, q1⟩ := back o1 q1
    obtain ⟨f2, o2, q2⟩ := back o2 q2
    exact e.sep j k f1 f2 a o1 o2 q1 q2 q3 q4
  sub := e.sub
  dom := e.dom
  unp := e.unp
  keep := e.keep
  drw := e.drw
theorem EnvR.lock (e : EnvR K F O H σ ρ) {i : Nat} {ds : List D} (hi : ρ[i]? = some (some (.ow (.list ds)))) : ∃ a xs, σ[i]? = some (some (.ref a)) ∧ H a = some (.lst xs) ∧ ¬ F.O0 a ∧ DrA K O H xs ds ∧ EnvR K F O H σ (ρ.set i (some (.lk a xs ds))) := by
  obtain ⟨a, xs, ds', e1, h1, h2, h3, h4, h5⟩ := e.ow hi
  cases e1
  refine ⟨a, xs, h1, h4, h3, h5, e.turnS hi rfl fun v q _ => ?_⟩
  rw [h1] at q
  cases q
  exact ⟨rfl, h2, h3, h4, h5⟩
theorem EnvR.unlock (e : EnvR K F O H σ ρ) {i : Nat} {a : Addr} {xs : List V} {ds : List D} (hi : ρ[i]? = some (some (.lk a xs ds))) : EnvR K F O H σ (ρ.set i (some (.ow (.list ds)))) := by
  refine e.turnS hi rfl fun v _ h => ?_
  obtain ⟨rfl, h1, h2, h3, h4⟩ := h
  exact ⟨a, rfl, h1, h2, xs, ds, rfl, h3, h4⟩
theorem EnvR.lkB (e : EnvR K F O H σ ρ) {i : Nat} {a : Addr} {xs : List V} {ds : List D} (h : ρ[i]? = some (some (.lk a xs ds))) : ∃ v, σ[i]? = some (some v) ∧ BDr K F.O0 O H v (.list ds) := by
  obtain ⟨v, h1, rfl, h2, h3, h4, h5⟩ := e.slot i _ h
  exact ⟨.ref a, h1, .inr ⟨a, xs, ds, rfl, rfl, h3, h4, h5⟩⟩
/-- a list of the frame's own is changed no more -/
theorem EnvR.freeze (e : EnvR K F O H σ ρ) {i : Nat} {d : D} (hi : ρ[i]? = some (some (.ow d))) : ∃ a, σ[i]? = some (some (.ref a)) ∧ EnvR K F (fun b => O b ∧ b ≠ a) H σ (ρ.set i (some (.fz d))) := by
  obtain ⟨v, h1, a, rfl, h2, h3, xs0, ds0, rfl, h4, h5⟩ := e.slot i _ hi
  have up : ∀ {v : V} {d : D}, Dr K O H v d → Dr K (fun b => O b ∧ b ≠ a) H v d := fun {v d} hd => Dr.stay (fun _ _ _ n q => n q.1) (fun _ _ _ q => q) d v hd
  have upA : ∀ {v : List V} {d : List D}, DrA K O H v d → DrA K (fun b => O b ∧ b ≠ a) H v d := fun {v d} hd => DrA.stay (fun _ _ _ n q => n q.1) (fun _ _ _ q => q) d v hd
  refine ⟨a, h1, by rw [List.length_set]; exact e.len, fun j s q => ?_, fun j k d' e2 b o1 o2 q1 q2 q3 q4 => ?_, fun b hb => ⟨e.sub b hb, fun z => h3 (by rw [← z]; exact hb)⟩, fun b hb => e.dom b hb.1, fun b hb n => e.unp b hb.1 n, e.keep, fun b hb => ?_⟩
  · rcases get_set q with ⟨rfl, e2, hl⟩ | ⟨hj, q⟩
    · cases e2
      exact ⟨.ref a, h1, .lst h4 (fun z => z.2 rfl) (upA h5)⟩
    · obtain ⟨w, g1, g2⟩ := e.slot j s q
      refine ⟨w, g1, ?_⟩
      cases s with
      | fz d => exact up g2
      | dr => exact g2
      | ow d =>
        obtain ⟨b, rfl, g3, g4, ys, es, rfl, g5, g6⟩ := g2
        exact ⟨b, rfl, ⟨g3, fun z => hj (by
          subst z
          exact e.sep j i _ _ b rfl rfl q hi g1 h1)⟩, g4, ys, es, rfl, g5, upA g6⟩
      | od kvs =>
        obtain ⟨b, rfl, g3, g4, g5⟩ := g2
        exact ⟨b, rfl, ⟨g3, fun z => hj (by
          subst z
          exact e.sep j i _ _ b rfl rfl q hi g1 h1)⟩, g4, g5.map (fun o q => q) fun v d q => up q⟩
      | lk b ys es =>
        obtain ⟨rfl, g3, g4, g5, g6⟩ := g2
        exact ⟨rfl, ⟨g3, fun z => hj (by
          subst z
          exact e.sep j i _ _ b rfl rfl q hi g1 h1)⟩, g4, g5, upA g6⟩
  · rcases get_set q1 with ⟨_, e3, _⟩ | ⟨_, q1⟩
    · cases e3 <;> cases o1
    rcases get_set q2 with ⟨_, e3, _⟩ | ⟨_, q2⟩
    · cases e3 <;> cases o2
    exact e.sep j k d' e2 b o1 o2 q1 q2 q3 q4
  · obtain ⟨g1, cells, i', cur, seed, k1, k2, k3, k4⟩ := e.drw b hb
    exact ⟨g1, cells, i', cur, seed, k1, k2, fun q => k3 q.1, k4⟩
/-- the heap grows by a new dict that the frame is to own -/
theorem EnvR.ownD (e : EnvR K F O H σ ρ) {i : Nat} {p : Addr} {kvs : List (NestedKey × D)} (st : Stp K F O H H') (hp : H p = none) (h : OdR K (fun a => O a ∨ a = p) H' p kvs) :
    EnvR K F (fun a => O a ∨ a = p) H' (σ.set i (some (.ref p))) (ρ.set i (some (.od kvs))) := by
  have e' := e.stp st
  have np : ¬ O p := e.dom.fresh hp
  have up : ∀ {v : V} {d : D}, Dr K O H v d → Dr K (fun a => O a ∨ a = p) H' v d := fun {v d} hd =>
    Dr.stay (fun a o hq n q => by
      rcases q with q | q
      · exact n q
      · rw [q, hp] at hq; cases hq) (fun b o n q => st.keep b o (e.nd n) q) d v hd
  have upA : ∀ {v : List V} {d : List D}, DrA K O H v d → DrA K (fun a => O a ∨ a = p) H' v d := fun {v d} hd =>
    DrA.stay (fun a o hq n q => by
      rcases q with q | q
      · exact n q
      · rw [q, hp] at hq; cases hq) (fun b o n q => st.keep b o (e.nd n) q) d v hd
  have nO : ¬ F.O0 p := fun q => np (e.sub p q)
  refine ⟨by rw [List.length_set, List.length_set]; exact e.len, fun j s q => ?_, fun j k d' e2 a o1 o2 q1 q2 q3 q4 => ?_, fun a h => .inl (e.sub a h), fun a h2 => ?_, fun a h n => ?_, e'.keep, fun a h => ?_⟩
  · rcases get_set q with ⟨rfl, e2, hl⟩ | ⟨hj, q⟩
    · cases e2
      exact ⟨.ref p, by rw [List.getElem?_set_self (by rw [e.len]; exact hl)], p, rfl, .inr rfl, nO, h⟩
    · obtain ⟨w, h1, h2⟩ := e.slot j s q
      refine ⟨w, by rw [List.getElem?_set_ne (Ne.symm hj)]; exact h1, ?_⟩
      cases s with
      | fz d => exact up h2
      | dr => exact h2
      | ow d =>
        obtain ⟨a, rfl, h3, h4, ys, es, rfl, h5, h6⟩ := h2
        exact ⟨a, rfl, .inl h3, h4, ys, es, rfl, st.keep _ _ (e.ndo h4) h5, upA h6⟩
      | od kvs =>
        obtain ⟨a, rfl, h3, h4, h5⟩ := h2
        exact ⟨a, rfl, .inl h3, h4, h5.map (fun o q => st.keep _ _ (e.ndo h4) q) fun v d q => up q⟩
      | lk a xs ds =>
        obtain ⟨rfl, h3, h4, h5, h6⟩ := h2
        exact ⟨rfl, .inl h3, h4, st.keep _ _ (e.ndo h4) h5, upA h6⟩
  · have fresh : ∀ {m : Nat} {f : Sl}, f.isOw = true → ρ[m]? = some (some f) → σ[m]? = some (some (.ref p)) → False := fun {m f} ho h1 h2 => by
      have g2 : O p := by
        obtain ⟨w, g1, g2⟩ := e.slot m _ h1
        rw [h2] at g1
        cases g1
        cases f with
        | ow f => obtain ⟨b, e1, g2, _⟩ := g2; cases e1; exact g2
        | od f => obtain ⟨b, e1, g2, _⟩ := g2; cases e1; exact g2
        | lk _ _ _ => obtain ⟨e1, g2, _⟩ := g2; cases e1; exact g2
        | _ => cases ho
      exact np g2
    have hlen : ∀ {m : Nat}, m = i → m < ρ.length → (σ.set i (some (V.ref p)))[m]? = some (some (V.ref p)) := fun {m} hm hl => by
      rw [hm, List.getElem?_set_self (by rw [e.len, ← hm]; exact hl)]
    rcases get_set q1 with ⟨ej, e3, hl⟩ | ⟨hj, q1⟩
    · rcases get_set q2 with ⟨ek, e4, _⟩ | ⟨hk, q2⟩
      · rw [ej, ek]
      · rw [hlen ej (by rw [ej]; exact hl)] at q3
        cases q3
        rw [List.getElem?_set_ne (Ne.symm hk)] at q4
        exact (fresh o2 q2 q4).elim
    · rcases get_set q2 with ⟨ek, e4, hl⟩ | ⟨hk, q2⟩
      · rw [hlen ek (by rw [ek]; exact hl)] at q4
        cases q4
        rw [List.getElem?_set_ne (Ne.symm hj)] at q3
        exact (fresh o1 q1 q3).elim
      · rw [List.getElem?_set_ne (Ne.symm hj)] at q3
        rw [List.getElem?_set_ne (Ne.symm hk)] at q4
        exact e.sep j k d' e2 a o1 o2 q1 q2 q3 q4
  · rcases h2 with h2 | rfl
    · exact e'.dom a h2
    · obtain ⟨xs, hx, _⟩ := h
      exact ⟨_, hx⟩
  · rcases h with h | rfl
    · exact e.unp a h n
    · cases q : F.H0 a with
      | none => rfl
      | some o =>
        by_cases hd : F.dA = some a
        · exact absurd (e.drw a hd).1 n
        · rw [e.keep a o hd q] at hp; cases hp
  · obtain ⟨h1, cells, i', cur, seed, g1, g2, g3, g4⟩ := e'.drw a h
    refine ⟨h1, cells, i', cur, seed, g1, g2, fun q => ?_, g4⟩
    rcases q with q | q
    · exact g3 q
    · obtain ⟨_, cells0, i0, cur0, seed0, k1, k2, _⟩ := e.drw a h
      rw [q, hp] at k2; cases k2
/-- a dict of the frame's own changes -/
theorem EnvR.mutD (e : EnvR K F O H σ ρ) {i : Nat} {a : Addr} {kvs0 : List (NestedKey × D)} {xs : List EnV} {kvs : List (NestedKey × D)} (hi : ρ[i]? = some (some (.od kvs0))) (hs : σ[i]? = some (some (.ref a))) (h : DV K O H xs kvs) :
    EnvR K F O (upd H a (dctO a xs)) σ (ρ.set i (some (.od kvs))) := by
  obtain ⟨v, h1, a', rfl, h2, h3, h4⟩ := e.slot i _ hi
  rw [hs] at h1
  cases h1
  have kp : ∀ b o, ¬ O b → H b = some o → (upd H a (dctO a xs)) b = some o := fun b o n q => by
    rw [upd_ne (fun z => n (by rw [z]; exact h2))]
    exact q
  have up : ∀ {v : V} {d : D}, Dr K O H v d → Dr K O (upd H a (dctO a xs)) v d := fun {v d} hd => Dr.stay (fun _ _ _ n => n) kp d v hd
  have upA : ∀ {v : List V} {d : List D}, DrA K O H v d → DrA K O (upd H a (dctO a xs)) v d := fun {v d} hd => DrA.stay (fun _ _ _ n => n) kp d v hd
  have nda : F.dA ≠ some a := e.ndo h3
  refine ⟨by rw [List.length_set]; exact e.len, fun j s q => ?_, fun j k d' e2 b o1 o2 q1 q2 q3 q4 => ?_, e.sub, fun b hb => ?_, e.unp, fun b o n hb => ?_, fun b hb => ?_⟩
  · rcases get_set q with ⟨rfl, e2, hl⟩ | ⟨hj, q⟩
    · cases e2
      exact ⟨.ref a, hs, a, rfl, h2, h3, xs, upd_same, Paired.mapP h fun x p z => ⟨z.1, up z.2.1, up z.2.2⟩⟩
    · obtain ⟨w, g1, g2⟩ := e.slot j s q
      refine ⟨w, g1, ?_⟩
      cases s with
      | fz d => exact up g2
      | dr => exact g2
      | ow d =>
        obtain ⟨b, rfl, g3, g4, ys, es, rfl, g5, g6⟩ := g2
        have nb : b ≠ a := fun z => hj (by
          subst z
          exact e.sep j i _ _ b rfl rfl q hi g1 hs)
        exact ⟨b, rfl, g3, g4, ys, es, rfl, by rw [upd_ne nb]; exact g5, upA g6⟩
      | od kvs =>
        obtain ⟨b, rfl, g3, g4, g5⟩ := g2
        have nb : b ≠ a := fun z => hj (by
          subst z
          exact e.sep j i _ _ b rfl rfl q hi g1 hs)
        exact ⟨b, rfl, g3, g4, g5.map (fun o q => by rw [upd_ne nb]; exact q) fun v d q => up q⟩
      | lk b ys es =>
        obtain ⟨rfl, g3, g4, g5, g6⟩ := g2
        have nb : b ≠ a := fun z => hj (by
          subst z
          exact e.sep j i _ _ b rfl rfl q hi g1 hs)
        exact ⟨rfl, g3, g4, by rw [upd_ne nb]; exact g5, upA g6⟩
  · have back : ∀ {m : Nat} {f : Sl}, f.isOw = true → (ρ.set i (some (.od kvs)))[m]? = some (some f) → ∃ f' : Sl, f'.isOw = true ∧ ρ[m]? = some (some f') := fun {m f} ho hm => by
      rcases get_set hm with ⟨rfl, _, _⟩ | ⟨_, q⟩
      · exact ⟨_, rfl, hi⟩
      · exact ⟨_, ho, q⟩
    obtain ⟨f1, o1, q1⟩ := back o1 q1
    obtain ⟨f2, o2, q2⟩ := back o2 q2
    exact e.sep j k f1 f2 b o1 o2 q1 q2 q3 q4
  · by_cases hba : b = a
    · subst hba; exact ⟨_, upd_same⟩
    · rw [upd_ne hba]; exact e.dom b hb
  · have hba : b ≠ a := fun z => by
      rw [z, e.unp a h2 h3] at hb; cases hb
    rw [upd_ne hba]
    exact e.keep b o n hb
  · obtain ⟨g1, cells, i', cur, seed, k1, k2, k3, k4⟩ := e.drw b hb
    have nb : b ≠ a := fun z => nda (by rw [← z]; exact hb)
    have nc : F.dC ≠ a := fun z => k3 (by rw [z]; exact h2)
    exact ⟨g1, cells, i', cur, seed, by rw [upd_ne nb]; exact k1, by rw [upd_ne nc]; exact k2, k3, k4⟩
theorem EnvR.odAt (e : EnvR K F O H σ ρ) {i : Nat} {kvs : List (NestedKey × D)} (h : ρ[i]? = some (some (.od kvs))) : ∃ a xs, σ[i]? = some (some (.ref a)) ∧ O a ∧ ¬ F.O0 a ∧ H a = some (dctO a xs) ∧ DV K O H xs kvs := by
  obtain ⟨v, h1, a, rfl, h2, h3, xs, h4, h5⟩ := e.slot i _ h
  exact ⟨a, xs, h1, h2, h3, h4, h5⟩
/-- a loop's turns: what stands at its start is kept through it -/
noncomputable def cutH (F : Fm) (O : Addr → Prop) (H : Hp) : Hp := fun b => open Classical in if O b ∧ ¬ F.O0 b then none else H b
theorem cutH_none {b : Addr} (h : O b ∧ ¬ F.O0 b) : cutH F O H b = none := by unfold cutH; rw [if_pos h]
theorem cutH_some {b : Addr} (h : ¬ (O b ∧ ¬ F.O0 b)) : cutH F O H b = H b := by unfold cutH; rw [if_neg h]
theorem of_cutH {b : Addr} {o : HO} (h : cutH F O H b = some o) : H b = some o := by
  by_cases c : O b ∧ ¬ F.O0 b
  · rw [cutH_none c] at h; cases h
  · rw [cutH_some c] at h; exact h
noncomputable def Fm.at (F : Fm) (O : Addr → Prop) (H : Hp) : Fm := { F with H0 := cutH F O H }
theorem EnvR.into (e : EnvR K F O H σ ρ) : EnvR K (F.at O H) O H σ ρ where
  len := e.len
  slot := fun i s q => by
    obtain ⟨v, h1, h2⟩ := e.slot i s q
    exact ⟨v, h1, by cases s <;> exact h2⟩
  sep := e.sep
  sub := e.sub
  dom := e.dom
  unp := fun a h n => cutH_none ⟨h, n⟩
  keep := fun b o n h => of_cutH h
  drw := e.drw
theorem EnvR.back {σ' : L2.St} {ρ' : Rho} (e : EnvR K F O H σ ρ) (e' : EnvR K (F.at O H) O' H' σ' ρ') : EnvR K F O' H' σ' ρ' where
  len := e'.len
  slot := fun i s q => by
    obtain ⟨v, h1, h2⟩ := e'.slot i s q
    exact ⟨v, h1, by cases s <;> exact h2⟩
  sep := e'.sep
  sub := e'.sub
  dom := e'.dom
  unp := fun a h n => by
    have h1 : cutH F O H a = none := e'.unp a h n
    by_cases c : O a ∧ ¬ F.O0 a
    · exact e.unp a c.1 c.2
    · rw [cutH_some c] at h1
      cases q : F.H0 a with
      | none => rfl
      | some o =>
        by_cases hd : F.dA = some a
        · exact absurd (e.drw a hd).1 n
        · rw [e.keep a o hd q] at h1; cases h1
  keep := fun b o n h => e'.keep b o n (by
    show cutH F O H b = some o
    rw [cutH_some (fun c => by rw [e.unp b c.1 c.2] at h; cases h)]
    exact e.keep b o n h)
  drw := e'.drw
/-- what stood at the loop's start and was nobody's own stands in each turn -/
theorem EnvR.stood {σ' : L2.St} {ρ' : Rho} (e : EnvR K F O H σ ρ) (e' : EnvR K (F.at O H) O' H' σ' ρ') {b : Addr} {o : HO} (n : ¬ O b) (h : H b = some o) : ¬ O' b ∧ H' b = some o := by
  have h0 : (F.at O H).H0 b = some o := by
    show cutH F O H b = some o
    rw [cutH_some (fun c => n c.1)]
    exact h
  have nO : ¬ F.O0 b := fun q => n (e.sub b q)
  refine ⟨fun q => ?_, e'.keep b o (e.nd n) h0⟩
  have := e'.unp b q nO
  rw [h0] at this; cases this
theorem DrA.stood {σ' : L2.St} {ρ' : Rho} {vs : List V} {ds : List D} (e : EnvR K F O H σ ρ) (e' : EnvR K (F.at O H) O' H' σ' ρ') (h : DrA K O H vs ds) : DrA K O' H' vs ds :=
  DrA.stay (fun a o q n => (e.stood e' n q).1) (fun b o n q => (e.stood e' n q).2) ds vs h
end
end DL

set_option Elab.async false
set_option linter.all false
set_option maxRecDepth 100000
set_option maxHeartbeats 4000000
namespace DL
open PySem PySem.Spec PyProof.Rows L2

/-! ### subscripts, slices, truth -/
def R2A (K : PySem.W.Frag) (f : D → D → (D → Prop) → Prop) : R2 := fun x y H Q => ∃ N O d e, Dom O H ∧ BDr K N O H x d ∧ BDr K N O H y e ∧ ∃ P, f d e P ∧ ∀ r, P r → Ans K O H Q r
def dSub1 : D → D → (D → Prop) → Prop
  | .list ds, .int i, Q => optQ (atI ds i) Q
  | .tuple ds, .int i, Q => optQ (atI ds i) Q
  | .str z, .int i, Q => z.length ≤ sizeLine ∧ optQ (atI z.cps.toList i) fun c => Q (.str ⟨#[c]⟩)
  | _, _, _ => False
theorem DrA.atI {K : PySem.W.Frag} {O : Addr → Prop} {H : Hp} {xs : List V} {ds : List D} {i : Int} {d : D} (h : DrA K O H xs ds) (e : L2.atI ds i = some d) : ∃ v, L2.atI xs i = some v ∧ Dr K O H v d := by
  unfold L2.atI at e ⊢
  rw [h.length]
  cases q : ixN ds.length i with
  | none => rw [q] at e; cases e
  | some j =>
    rw [q] at e
    exact h.at (show ds[j]? = some d from e)
section
variable {X : Cx}
theorem ix_d : IxR X (R2A X.K dSub1) := by
  intro value slice pins s σ H x y v u Q I rx ry h hs
  obtain ⟨N, O, d, e, dm, hx, hy, P, q, hP⟩ := h
  unfold dSub1 at q
  split at q
  · obtain ⟨r, e1, q⟩ := optQ_iff q
    obtain ⟨a, xs, rfl, h1, h2⟩ := hx.lst
    rw [hy.int] at ry
    obtain ⟨w, e2, h3⟩ := h2.atI e1
    exact ix_list value slice pins s σ H _ _ v u Q I rx ry ⟨a, xs, _, w, rfl, rfl, SqL.of h1, e2, hP _ q _ _ (Same.refl H) h3⟩ hs
  · obtain ⟨r, e1, q⟩ := optQ_iff q
    obtain ⟨a, xs, rfl, h1, h2⟩ := hx.tup
    rw [hy.int] at ry
    obtain ⟨w, e2, h3⟩ := h2.atI e1
    exact ix_tup value slice pins s σ H _ _ v u Q I rx ry ⟨a, xs, _, w, rfl, rfl, h1, e2, hP _ q _ _ (Same.refl H) h3⟩ hs
  · obtain ⟨h0, q⟩ := q
    obtain ⟨r, e1, q⟩ := optQ_iff q
    rw [hx.str] at rx
    rw [hy.int] at ry
    exact ix_str value slice pins s σ H _ _ v u Q I rx ry ⟨_, _, r, rfl, rfl, h0, e1, hP _ q _ _ (Same.refl H) (.str _)⟩ hs
  · exact q.elim
def cutL {α : Type} (xs : List α) (lo hi : Option Int) : List α := (xs.drop (HT.sIx xs.length 0 lo)).take (HT.sIx xs.length xs.length hi - HT.sIx xs.length 0 lo)
theorem cutV_eq (xs : List V) (lo hi : Option Int) : cutV xs lo hi = cutL xs lo hi := rfl
theorem DrA.cut {K : PySem.W.Frag} {O : Addr → Prop} {H : Hp} {xs : List V} {ds : List D} (h : DrA K O H xs ds) (lo hi : Option Int) : DrA K O H (cutL xs lo hi) (cutL ds lo hi) := by
  unfold cutL
  rw [h.length]
  exact (h.drop _).take _
def dCut : D → Option Int → Option Int → (D → Prop) → Prop
  | .list ds, lo, hi, Q => Q (.list (cutL ds lo hi))
  | .tuple ds, lo, hi, Q => Q (.tuple (cutL ds lo hi))
  | .str z, lo, hi, Q => z.length ≤ sizeLine ∧ Q (.str (cutS z lo hi))
  | _, _, _, _ => False
def RSD (K : PySem.W.Frag) : V → Option Int → Option Int → Hp → VK → Prop := fun x lo hi H Q => ∃ N O d, Dom O H ∧ BDr K N O H x d ∧ ∃ P, dCut d lo hi P ∧ ∀ r, P r → AnsF K O H Q r
theorem cut_whole {ds : List D} {lo hi : Option Int} (h1 : HT.sIx ds.length 0 lo = 0) (h2 : HT.sIx ds.length ds.length hi = ds.length) : cutL ds lo hi = ds := by
  unfold cutL
  rw [h1, h2, List.drop_zero, Nat.sub_zero, List.take_length]
theorem sl_d : SlR X (RSD X.K) := by
  intro pins s σ H x v vl vu lo hi sl Q I rx hs pl pu h
  obtain ⟨N, O, d, dm, hx, P, q, hP⟩ := h
  unfold dCut at q
  split at q
  · obtain ⟨a, xs, rfl, h1, h2⟩ := hx.lst
    exact sl_list pins s σ H _ v vl vu _ _ sl Q I rx hs pl pu ⟨a, xs, rfl, SqL.of h1, (hP _ q).lst dm (h2.cut _ _)⟩
  · have hd := hx.tupDr
    obtain ⟨a, xs, rfl, h1, h2⟩ := hx.tup
    refine sl_tupA pins s σ H _ v vl vu _ _ sl Q I rx hs pl pu ⟨a, xs, rfl, h1, fun w => ?_, fun _ => (hP _ q).tup dm (h2.cut _ _)⟩
    rw [h2.length] at w
    rw [cut_whole w.1 w.2] at q
    exact (hP _ q).same hd fun _ => nofun
  · rw [hx.str] at rx
    exact sl_str pins s σ H _ v vl vu _ _ sl Q I rx hs pl pu ⟨_, rfl, q.1, (hP _ q.2).str⟩
  · exact q.elim
/-! truth -/
def truD : D → Option Bool
  | .none => some false
  | .bool b => some b
  | .int i => some (i != 0)
  | .str z => if z.length ≤ sizeLine then some ((z.length : Int) != 0) else none
  | .list ds => some (!ds.isEmpty)
  | .tuple ds => some (!ds.isEmpty)
  | .dict _ => none
theorem DrA.empty {K : PySem.W.Frag} {O : Addr → Prop} {H : Hp} {xs : List V} {ds : List D} (h : DrA K O H xs ds) : xs.isEmpty = ds.isEmpty := by
  cases h <;> rfl
theorem tru_d {K : PySem.W.Frag} {N : Addr → Prop} {O : Addr → Prop} {H : Hp} {v : V} {d : D} {c : Bool} (h : BDr K N O H v d) (e : truD d = some c) : TruV K v H c := by
  cases d with
  | none => rw [h.non]; exact (Option.some.inj e).symm
  | bool b => rw [h.bl]; exact (Option.some.inj e).symm
  | int i => rw [h.int]; exact (Option.some.inj e).symm
  | str z =>
    rw [h.str]
    have e' : (if z.length ≤ sizeLine then some ((z.length : Int) != 0) else none) = some c := e
    by_cases hz : z.length ≤ sizeLine
    · rw [if_pos hz] at e'
      exact ⟨hz, (Option.some.inj e').symm⟩
    · rw [if_neg hz] at e'
      cases e'
  | list ds =>
    obtain ⟨a, xs, rfl, h1, h2⟩ := h.lst
    exact .inl ⟨xs, SqL.of h1, by rw [h2.empty]; exact (Option.some.inj e).symm⟩
  | tuple ds =>
    obtain ⟨a, xs, rfl, h1, h2⟩ := h.tup
    exact .inr (.inl ⟨xs, h1, by rw [h2.empty]; exact (Option.some.inj e).symm⟩)
  | dict _ => cases e
end

/-! ### what is walked -/
/-- J gives the data ds, in all states that R allows -/
def Wk (K : PySem.W.Frag) (R : (Addr → Prop) → Hp → Prop) (J : It) (ds : List D) : Prop :=
  ∃ (G : Hp → Prop) (Y : Nat → Hp → V → Hp → Prop), Walk J ds.length G Y ∧ (∀ O' H', R O' H' → G H') ∧
    ∀ O' H' i x H'', R O' H' → Dom O' H' → i < ds.length → Y i H' x H'' → Same H' H'' ∧ ∃ d, ds[i]? = some d ∧ Dr K O' H'' x d
section
variable {K : PySem.W.Frag} {R : (Addr → Prop) → Hp → Prop} {a b : Addr} {xs ys : List V} {ds es : List D}
theorem wk_list (h1 : ∀ O' H', R O' H' → SqL K H' a xs) (h2 : ∀ O' H', R O' H' → DrA K O' H' xs ds) (hl : xs.length = ds.length) : Wk K R (Itl K a) ds := by
  refine ⟨fun H => SqL K H a xs, YAt xs, by rw [← hl]; exact walk_list, h1, fun O' H' i x H'' r dm hi y => ?_⟩
  obtain ⟨rfl, e⟩ := y
  obtain ⟨d, e2, h3⟩ := (h2 O' _ r).get e
  exact ⟨Same.refl _, d, e2, h3⟩
theorem wk_tup (h1 : ∀ O' H', R O' H' → SqT K H' a xs) (h2 : ∀ O' H', R O' H' → DrA K O' H' xs ds) (hl : xs.length = ds.length) : Wk K R (Itt K a) ds := by
  refine ⟨fun H => SqT K H a xs, YAt xs, by rw [← hl]; exact walk_tup, h1, fun O' H' i x H'' r dm hi y => ?_⟩
  obtain ⟨rfl, e⟩ := y
  obtain ⟨d, e2, h3⟩ := (h2 O' _ r).get e
  exact ⟨Same.refl _, d, e2, h3⟩
def rangeD (lo : Int) (n : Nat) : List D := (List.range n).map fun (i : Nat) => PyData.int (lo + i)
theorem wk_range {lo : Int} {n : Nat} : Wk K R (Itr lo n) (rangeD lo n) := by
  refine ⟨fun _ => True, YFn fun i => .int (lo + i), by unfold rangeD; rw [List.length_map, List.length_range]; exact walk_range, fun _ _ _ => trivial, fun O' H' i x H'' r dm hi y => ?_⟩
  obtain ⟨rfl, rfl⟩ := y
  refine ⟨Same.refl _, .int (lo + i), ?_, .int _⟩
  unfold rangeD at hi ⊢
  rw [List.length_map, List.length_range] at hi
  rw [List.getElem?_map, List.getElem?_range hi]
  rfl
theorem dr_pair {O : Addr → Prop} {H : Hp} {T : Addr} {x y : V} {d e : D} (dm : Dom O H) (hT : H T = none) (h1 : Dr K O H x d) (h2 : Dr K O H y e) : Same H (upd H T (.tup [x, y])) ∧ Dr K O (upd H T (.tup [x, y])) (.ref T) (.tuple [d, e]) :=
  ⟨same_upd hT, .tup (.inl ⟨upd_same, dm.fresh hT⟩) (.cons (h1.same (same_upd hT)) (.cons (h2.same (same_upd hT)) .nil))⟩
def enumD (ds : List D) : List D := (rangeD 0 ds.length).zipWith (fun i d => PyData.tuple [i, d]) ds
theorem enumD_length (ds : List D) : (enumD ds).length = ds.length := by unfold enumD rangeD; simp
theorem enumD_get {ds : List D} {i : Nat} {d : D} (h : ds[i]? = some d) : (enumD ds)[i]? = some (.tuple [.int i, d]) := by
  have hi : i < ds.length := (List.getElem?_eq_some_iff.mp h).1
  unfold enumD rangeD
  rw [List.getElem?_zipWith, List.getElem?_map, List.getElem?_range hi, h]
  simp
theorem wk_enum (h1 : ∀ O' H', R O' H' → SqL K H' a xs) (h2 : ∀ O' H', R O' H' → DrA K O' H' xs ds) (hl : xs.length = ds.length) : Wk K R (Ite K a) (enumD ds) := by
  refine ⟨fun H => SqL K H a xs, _, by rw [enumD_length, ← hl]; exact walk_enum, h1, fun O' H' i x H'' r dm hi y => ?_⟩
  obtain ⟨T, u, v, rfl, hT, rfl, e1, e2⟩ := y
  cases e1
  obtain ⟨d, e3, h3⟩ := (h2 O' _ r).get e2
  obtain ⟨p1, p2⟩ := dr_pair dm hT (.int (i : Nat)) h3
  exact ⟨p1, _, enumD_get e3, p2⟩
def zipD (ds es : List D) : List D := ds.zipWith (fun a b => PyData.tuple [a, b]) es
theorem zipD_get {ds es : List D} {i : Nat} {d e : D} (h : ds[i]? = some d) (h2 : es[i]? = some e) : (zipD ds es)[i]? = some (.tuple [d, e]) := by
  unfold zipD
  rw [List.getElem?_zipWith, h, h2]
theorem wk_zipL (h1 : ∀ O' H', R O' H' → SqL K H' a xs) (h2 : ∀ O' H', R O' H' → DrA K O' H' xs ds) (hl : xs.length = ds.length) (g1 : ∀ O' H', R O' H' → SqL K H' b ys) (g2 : ∀ O' H', R O' H' → DrA K O' H' ys es) (gl : ys.length = es.length) :
    Wk K R (Itz K a b) (zipD ds es) := by
  refine ⟨fun H => SqL K H a xs ∧ SqL K H b ys, _, walk_zip (by unfold zipD; rw [List.length_zipWith, hl, gl]), fun O' H' r => ⟨h1 O' H' r, g1 O' H' r⟩, fun O' H' i x H'' r dm hi y => ?_⟩
  obtain ⟨T, u, v, rfl, hT, rfl, e1, e2⟩ := y
  obtain ⟨d, e3, h3⟩ := (h2 O' _ r).get e1
  obtain ⟨e, e4, h4⟩ := (g2 O' _ r).get e2
  obtain ⟨p1, p2⟩ := dr_pair dm hT h3 h4
  exact ⟨p1, _, zipD_get e3 e4, p2⟩
end
end DL

set_option Elab.async false
set_option linter.all false
set_option maxRecDepth 100000
set_option maxHeartbeats 4000000
namespace DL
open PySem PySem.Spec PyProof.Rows L2

/-! ### more operators, and all of them by their sign -/
def dIn (neg : Bool) : D → D → (D → Prop) → Prop
  | d, .list ds, Q => shp d ∧ shp (.list ds) ∧ Q (.bool (if neg then !(ds.any fun z => PyData.eqv z d) else ds.any fun z => PyData.eqv z d))
  | d, .tuple ds, Q => shp d ∧ shp (.tuple ds) ∧ Q (.bool (if neg then !(ds.any fun z => PyData.eqv z d) else ds.any fun z => PyData.eqv z d))
  | _, _, _ => False
def dNeg : D → (D → Prop) → Prop
  | .int i, Q => Q (.int (-i))
  | _, _ => False
def opF : Operator → D → D → (D → Prop) → Prop
  | .Add => dAdd
  | .Sub => dSub
  | .Mult => dMul
  | .Mod => dMod
  | .FloorDiv => dDiv
  | _ => fun _ _ _ => False
def cmpF : CmpOp → D → D → (D → Prop) → Prop
  | .Eq => dEq
  | .NotEq => dNe
  | .Lt => dLt
  | .LtE => dLe
  | .Gt => dGt
  | .GtE => dGe
  | .Is => dIs
  | .IsNot => dIsnt
  | .In => dIn false
  | .NotIn => dIn true
section
variable {X : Cx}
theorem op_dIn (hu : X.A.units + 65 < cLine) : OpR X (compareOp .In) (R2D X.K (dIn false)) := by
  intro pins s σ H x y v u Q I rx ry h
  obtain ⟨N, O, d, e, dm, hx, hy, P, q, hP⟩ := h
  obtain ⟨as, r1⟩ := Dp.reads I d x v hx.dp rx
  obtain ⟨bs, r2⟩ := Dp.reads I e y u hy.dp ry
  unfold dIn at q
  split at q
  · exact SeqAt.in_list_reads r2 r1 (SeqAt.canLay_of_shaped q.2.1) (SeqAt.canLay_of_shaped q.1) (room_in_shaped q.1 hu) ⟨.bl _, H, I, rfl, (hP _ q.2.2).bl⟩
  · exact SeqAt.in_tuple_reads r2 r1 (SeqAt.canLay_of_shaped q.2.1) (SeqAt.canLay_of_shaped q.1) (room_in_shaped q.1 hu) ⟨.bl _, H, I, rfl, (hP _ q.2.2).bl⟩
  · exact q.elim
theorem op_dNotIn (hu : X.A.units + 65 < cLine) : OpR X (compareOp .NotIn) (R2D X.K (dIn true)) := by
  intro pins s σ H x y v u Q I rx ry h
  obtain ⟨N, O, d, e, dm, hx, hy, P, q, hP⟩ := h
  obtain ⟨as, r1⟩ := Dp.reads I d x v hx.dp rx
  obtain ⟨bs, r2⟩ := Dp.reads I e y u hy.dp ry
  unfold dIn at q
  split at q
  · exact SeqAt.notIn_list_reads r2 r1 (SeqAt.canLay_of_shaped q.2.1) (SeqAt.canLay_of_shaped q.1) (room_in_shaped q.1 hu) ⟨.bl _, H, I, rfl, (hP _ q.2.2).bl⟩
  · exact SeqAt.notIn_tuple_reads r2 r1 (SeqAt.canLay_of_shaped q.2.1) (SeqAt.canLay_of_shaped q.1) (room_in_shaped q.1 hu) ⟨.bl _, H, I, rfl, (hP _ q.2.2).bl⟩
  · exact q.elim
theorem op_F (op : Operator) : OpR X (binaryOp op) (R2D X.K (opF op)) := by
  have no : OpR X (binaryOp op) (R2D X.K fun _ _ _ => False) := by
    intro pins s σ H x y v u Q I rx ry h
    obtain ⟨N, O, d, e, dm, hx, hy, P, q, hP⟩ := h
    exact q.elim
  cases op with
  | Add => exact op_dAdd
  | Sub => exact op_dSub
  | Mult => exact op_dMul
  | Mod => exact op_dMod
  | FloorDiv => exact op_dDiv
  | _ => exact no
theorem cmp_F (hu : X.A.units + 65 < cLine) (op : CmpOp) : OpR X (compareOp op) (R2D X.K (cmpF op)) := by
  cases op with
  | Eq => exact op_dEq (by omega)
  | NotEq => exact op_dNe (by omega)
  | Lt => exact op_dLt
  | LtE => exact op_dLe
  | Gt => exact op_dGt
  | GtE => exact op_dGe
  | Is => exact op_dIs
  | IsNot => exact op_dIsnt
  | In => exact op_dIn hu
  | NotIn => exact op_dNotIn hu
def R1D (K : PySem.W.Frag) (f : D → (D → Prop) → Prop) : V → Hp → VK → Prop := fun x H Q => ∃ N O d, Dom O H ∧ BDr K N O H x d ∧ ∃ P, f d P ∧ ∀ r, P r → AnsF K O H Q r
theorem un_dNeg : UnR X (unaryOp .USub) (R1D X.K dNeg) := by
  intro pins s σ H x v Q I rx h
  obtain ⟨N, O, d, dm, hx, P, q, hP⟩ := h
  unfold dNeg at q
  split at q
  · rw [hx.int] at rx
    exact un_neg pins s σ H _ v Q I rx ⟨_, rfl, (hP _ q).int⟩
  · exact q.elim
end
/-- a comparison's answer is a truth value -/
theorem cmpF_bool {op : CmpOp} {x y : D} {P : D → Prop} (h : cmpF op x y P) : cmpF op x y fun r => P r ∧ ∃ b, r = .bool b := by
  cases op with
  | Eq => exact ⟨h.1, h.2.1, h.2.2, _, rfl⟩
  | NotEq => exact ⟨h.1, h.2.1, h.2.2, _, rfl⟩
  | In =>
    have h : dIn false x y P := h
    show dIn false x y _
    cases y with
    | list ds => exact ⟨h.1, h.2.1, h.2.2, _, rfl⟩
    | tuple ds => exact ⟨h.1, h.2.1, h.2.2, _, rfl⟩
    | _ => exact h.elim
  | NotIn =>
    have h : dIn true x y P := h
    show dIn true x y _
    cases y with
    | list ds => exact ⟨h.1, h.2.1, h.2.2, _, rfl⟩
    | tuple ds => exact ⟨h.1, h.2.1, h.2.2, _, rfl⟩
    | _ => exact h.elim
  | _ => cases x <;> cases y <;> first | exact h.elim | exact ⟨h, _, rfl⟩

/-! keys of dicts -/
mutual
def nkOf : D → Option NestedKey
  | .none => some .none
  | .int i => some (.num i)
  | .tuple ds => (nksOf ds).map .tup
  | .bool _ => none
  | .str _ => none
  | .list _ => none
  | .dict _ => none
def nksOf : List D → Option (List NestedKey)
  | [] => some []
  | d :: ds => match nkOf d, nksOf ds with
    | some k, some ks => some (k :: ks)
    | _, _ => none
end
mutual
theorem nkOf_data : ∀ (d : D) (k : NestedKey), nkOf d = some k → k.data = d ∧ plainK k = true
  | .none, k, h => by rw [nkOf] at h; cases h; exact ⟨by rw [NestedKey.data], by rw [plainK]⟩
  | .int i, k, h => by rw [nkOf] at h; cases h; exact ⟨by rw [NestedKey.data], by rw [plainK]⟩
  | .tuple ds, k, h => by
    rw [nkOf, Option.map_eq_some_iff] at h
    obtain ⟨ks, h1, rfl⟩ := h
    obtain ⟨h2, h3⟩ := nksOf_data ds ks h1
    exact ⟨by rw [NestedKey.data, h2], by rw [plainK]; exact h3⟩
  | .bool _, k, h => by rw [nkOf] at h; cases h
  | .str _, k, h => by rw [nkOf] at h; cases h
  | .list _, k, h => by rw [nkOf] at h; cases h
  | .dict _, k, h => by rw [nkOf] at h; cases h
theorem nksOf_data : ∀ (ds : List D) (ks : List NestedKey), nksOf ds = some ks → NestedKey.datas ks = ds ∧ plainKs ks = true
  | [], ks, h => by rw [nksOf] at h; cases h; exact ⟨by rw [NestedKey.datas], by rw [plainKs]⟩
  | d :: ds, ks, h => by
    rw [nksOf] at h
    cases h1 : nkOf d with
    | none => rw [h1] at h; cases h
    | some k =>
      cases h2 : nksOf ds with
      | none => rw [h1, h2] at h; cases h
      | some ks' =>
        rw [h1, h2] at h
        cases h
        obtain ⟨a1, a2⟩ := nkOf_data d k h1
        obtain ⟨b1, b2⟩ := nksOf_data ds ks' h2
        exact ⟨by rw [NestedKey.datas, a1, b1], by rw [plainKs, a2, b2]; rfl⟩
end
/-- a tuple that may be a key -/
def keyT : D → Option NestedKey
  | .tuple ds => match nkOf (.tuple ds) with
    | some k => if k.depth ≤ 8 then some k else none
    | none => none
  | _ => none
theorem keyT_ok {d : D} {k : NestedKey} (h : keyT d = some k) : k.data = d ∧ keyOkK k ∧ ∃ ds, d = .tuple ds := by
  cases d with
  | tuple ds =>
    unfold keyT at h
    simp only at h
    cases h1 : nkOf (.tuple ds) with
    | none => rw [h1] at h; cases h
    | some k' =>
      rw [h1] at h
      simp only at h
      split at h
      · cases h
        obtain ⟨a1, a2⟩ := nkOf_data _ _ h1
        exact ⟨a1, ⟨a2, ‹_›⟩, ds, rfl⟩
      · cases h
  | _ => cases h

/-! ### the grammar -/
inductive Bi where
  | len | tuple | list | sum | any | all | abs | min | max | int | str | gcd | sorted
  deriving DecidableEq
def Bi.nm : Bi → Str
  | .len => "len" | .tuple => "tuple" | .list => "list" | .sum => "sum" | .any => "any" | .all => "all" | .abs => "abs" | .min => "min" | .max => "max" | .int => "int" | .str => "str" | .gcd => "gcd" | .sorted => "sorted"
def Bi.fd : Bi → FD
  | .len => dLen | .tuple => dTuple | .list => dList | .sum => dSum | .any => dAny | .all => dAll | .abs => dAbs | .min => dMin2 | .max => dMax2 | .int => dInt | .str => dStr | .gcd => dGcd | .sorted => dSorted
mutual
inductive Tg where
  | n (i : Nat)
  | t (ts : Tgs)
inductive Tgs where
  | nil
  | cons (t : Tg) (ts : Tgs)
end
mutual
inductive Ex where
  | v (i : Nat) | b (i : Nat)
  | int (i : Int) | bl (b : Bool) | non | str (s : Str)
  | g (x : Str)
  | bin (op : Operator) (a b : Ex)
  | neg (a : Ex)
  | cmp (op : CmpOp) (a b : Ex)
  | chain (op op' : CmpOp) (a b c : Ex)
  | and (a b : Ex) | or (a b : Ex) | not (a : Ex)
  | ite (t a b : Ex)
  | tup (es : Exs) | lst (es : Exs)
  | sub (a i : Ex)
  | cut (a : Ex) (lo hi : Eo)
  | bi (b : Bi) (es : Exs)
  | isi (a : Ex) (T : String)
  | call (f : Str) (es : Exs)
  | comp (own : List (Str × Nat)) (elt : Ex) (tg : Tg) (it : Ir) (ifs : Eo)
  | comp2 (own : List (Str × Nat)) (elt : Ex) (tg : Tg) (it : Ir) (ifs : Eo) (tg1 : Tg) (it1 : Ir) (ifs1 : Eo)
  | setlen (e : Ex)
  | dget (i : Nat) (k d : Ex)
  | dsort (it : Bool) (i : Nat)
  | rtup (e : Ex)
  | dead
inductive Exs where
  | nil
  | cons (e : Ex) (es : Exs)
  | dr (i : Nat) (es : Exs)
inductive Eo where
  | no
  | so (e : Ex)
inductive Ir where
  | seq (e : Ex)
  | rng (es : Exs)
  | enum (e : Ex)
  | zip (a b : Ex)
end

/-! ### the meaning, over data -/
abbrev Fns := Str → List Sl → (D → Prop) → (Str → Prop) → Prop
structure Gam where
  Φ : Fns
  gl : List (Str × D)
  fs : List Str
  exs : List Str
def fzs : List Sl → Option (List D)
  | [] => some []
  | .fz d :: r => (fzs r).map (d :: ·)
  | _ => none
/-- a turn after another -/
def foldW (step : D → List D → (List D → Prop) → Prop) : List D → List D → (List D → Prop) → Prop
  | [], acc, Q => Q acc
  | d :: ds, acc, Q => step d acc fun acc' => foldW step ds acc' Q
mutual
def bindT : Tg → D → Rho → (Rho → Prop) → Prop
  | .n i, d, ρ, Q => Q (ρ.set i (some (.fz d)))
  | .t ts, d, ρ, Q => match d with
    | .tuple ds => ds.length = tgsLen ts ∧ bindTs ts ds ρ Q
    | _ => False
def bindTs : Tgs → List D → Rho → (Rho → Prop) → Prop
  | .nil, ds, ρ, Q => ds = [] ∧ Q ρ
  | .cons t ts, ds, ρ, Q => match ds with
    | d :: r => bindT t d ρ fun ρ' => bindTs ts r ρ' Q
    | [] => False
def tgsLen : Tgs → Nat
  | .nil => 0
  | .cons _ ts => tgsLen ts + 1
end
def wipeR (ρ : Rho) : List Nat → Rho
  | [] => ρ
  | v :: vs => (wipeR ρ vs).set v none
def seqOf : D → (List D → Prop) → Prop
  | .list ds, P => P ds
  | .tuple ds, P => P ds
  | _, _ => False
def rngOk (i : Int) : Prop := -(2 ^ 62) ≤ i ∧ i < 2 ^ 62
def rngW : List D → (List D → Prop) → Prop
  | [.int j], P => rngOk j ∧ P (rangeD 0 j.toNat)
  | [.int i, .int j], P => rngOk i ∧ rngOk j ∧ P (rangeD i (j - i).toNat)
  | _, _ => False
def enumW : D → (List D → Prop) → Prop
  | .list ds, P => P (enumD ds)
  | .tuple ds, P => P (enumD ds)
  | _, _ => False
def zipW (x y : D) (P : List D → Prop) : Prop := seqOf x fun ds => seqOf y fun es => P (zipD ds es)
mutual
def slotsT : Tg → List Nat
  | .n i => [i]
  | .t ts => slotsTs ts
def slotsTs : Tgs → List Nat
  | .nil => []
  | .cons t ts => slotsT t ++ slotsTs ts
end
/-- how many different numbers -/
def dstI (ns : List Int) : Int := ((PyProof.Rows.firstMet (fun i => ns.getD i 0) ns.length).length : Nat)
def setlenW : D → (D → Prop) → Prop
  | .list ds, P => optQ (intsOf ds) fun ns => ns.length ≤ 4000 ∧ P (.int (dstI ns))
  | _, _ => False
abbrev nE : Str → Prop := fun _ => False
mutual
def wpE (Γ : Gam) : Ex → Rho → (D → Prop) → (Str → Prop) → Prop
  | .v i, ρ, P, _ => match ρ[i]? with
    | some (some (.fz d)) => P d
    | _ => False
  | .b i, ρ, P, _ => match ρ[i]? with
    | some (some (.fz d)) => P d
    | some (some (.ow d)) => P d
    | some (some (.lk _ _ ds)) => P (.list ds)
    | _ => False
  | .int i, _, P, _ => P (.int i)
  | .bl b, _, P, _ => P (.bool b)
  | .non, _, P, _ => P .none
  | .str s, _, P, _ => P (.str s)
  | .g x, _, P, _ => optQ (Γ.gl.lookup x) P
  | .bin op a b, ρ, P, E => wpE Γ a ρ (fun x => wpE Γ b ρ (fun y => opF op x y P) E) E
  | .neg a, ρ, P, E => wpE Γ a ρ (fun x => dNeg x P) E
  | .cmp op a b, ρ, P, E => wpE Γ a ρ (fun x => wpE Γ b ρ (fun y => cmpF op x y P) E) E
  | .chain op op' a b c, ρ, P, E => wpE Γ a ρ (fun x => wpE Γ b ρ (fun y => cmpF op x y fun r => match r with
      | .bool true => wpE Γ c ρ (fun z => cmpF op' y z P) E
      | .bool false => P (.bool false)
      | _ => False) E) E
  | .and a b, ρ, P, E => wpE Γ a ρ (fun x => optQ (truD x) fun c => if c = true then wpE Γ b ρ P E else P x) E
  | .or a b, ρ, P, E => wpE Γ a ρ (fun x => optQ (truD x) fun c => if c = true then P x else wpE Γ b ρ P E) E
  | .not a, ρ, P, E => wpE Γ a ρ (fun x => optQ (truD x) fun c => P (.bool (!c))) E
  | .ite t a b, ρ, P, E => wpE Γ t ρ (fun x => optQ (truD x) fun c => if c = true then wpE Γ a ρ P E else wpE Γ b ρ P E) E
  | .tup es, ρ, P, E => wpX Γ es ρ (fun ss => optQ (fzs ss) fun ds => P (.tuple ds)) E
  | .lst es, ρ, P, E => wpX Γ es ρ (fun ss => optQ (fzs ss) fun ds => P (.list ds)) E
  | .sub a i, ρ, P, E => wpE Γ a ρ (fun x => wpE Γ i ρ (fun y => dSub1 x y P) E) E
  | .cut a lo hi, ρ, P, E => wpE Γ a ρ (fun x => wpO Γ lo ρ (fun l => wpO Γ hi ρ (fun h => dCut x l h P) E) E) E
  | .bi b es, ρ, P, E => wpX Γ es ρ (fun ss => optQ (fzs ss) fun ds => b.fd ds P) E
  | .isi a T, ρ, P, E => wpE Γ a ρ (fun x => P (.bool (isiD T x))) E
  | .call f es, ρ, P, E => wpX Γ es ρ (fun ss => Γ.Φ f ss P E) E
  | .comp own elt tg it ifs, ρ, P, E => wpI Γ it ρ (fun ds => ds.length ≤ sizeLine ∧ foldW (fun d acc k => bindT tg d (wipeR ρ (own.map (·.2))) fun ρ1 =>
      wpC Γ ifs ρ1 (fun c => if c = true then wpE Γ elt ρ1 (fun y => k (acc ++ [y])) nE else k acc) nE) ds [] fun acc => P (.list acc)) E
  | .comp2 own elt tg it ifs tg1 it1 ifs1, ρ, P, E => wpI Γ it ρ (fun ds => foldW (fun d acc k => bindT tg d (wipeR ρ (own.map (·.2))) fun ρ1 =>
      wpC Γ ifs ρ1 (fun c => if c = true then wpI Γ it1 ρ1 (fun es => foldW (fun e acc k => bindT tg1 e (wipeR ρ1 (slotsT tg1)) fun ρ2 =>
        wpC Γ ifs1 ρ2 (fun c => if c = true then wpE Γ elt ρ2 (fun y => acc.length < sizeLine ∧ k (acc ++ [y])) nE else k acc) nE) es acc k) nE else k acc) nE) ds [] fun acc => P (.list acc)) E
  | .setlen e, ρ, P, E => wpE Γ e ρ (fun d => setlenW d P) E
  | .dget i k d, ρ, P, E => match ρ[i]? with
    | some (some (.od kvs)) => wpE Γ k ρ (fun x => optQ (keyT x) fun kk => wpE Γ d ρ (fun y => P ((lookV kvs kk).getD y)) E) E
    | _ => False
  | .dsort it i, ρ, P, _ => match ρ[i]? with
    | some (some (.od kvs)) => sortOk (viewD it kvs) ∧ P (.list (sortD (viewD it kvs)))
    | _ => False
  | .rtup e, ρ, P, E => wpE Γ e ρ (fun d => seqOf d fun ds => P (.tuple ds.reverse)) E
  | .dead, _, _, _ => False
def wpX (Γ : Gam) : Exs → Rho → (List Sl → Prop) → (Str → Prop) → Prop
  | .nil, _, P, _ => P []
  | .cons e es, ρ, P, E => wpE Γ e ρ (fun d => wpX Γ es ρ (fun ss => P (.fz d :: ss)) E) E
  | .dr i es, ρ, P, E => match ρ[i]? with
    | some (some .dr) => wpX Γ es ρ (fun ss => P (.dr :: ss)) E
    | _ => False
def wpO (Γ : Gam) : Eo → Rho → (Option Int → Prop) → (Str → Prop) → Prop
  | .no, _, P, _ => P none
  | .so e, ρ, P, E => wpE Γ e ρ (fun d => match d with
    | .int i => P (some i)
    | _ => False) E
def wpC (Γ : Gam) : Eo → Rho → (Bool → Prop) → (Str → Prop) → Prop
  | .no, _, P, _ => P true
  | .so e, ρ, P, E => wpE Γ e ρ (fun d => optQ (truD d) P) E
def wpI (Γ : Gam) : Ir → Rho → (List D → Prop) → (Str → Prop) → Prop
  | .seq e, ρ, P, E => wpE Γ e ρ (fun d => seqOf d P) E
  | .rng es, ρ, P, E => wpX Γ es ρ (fun ss => optQ (fzs ss) fun ds => rngW ds P) E
  | .enum e, ρ, P, E => wpE Γ e ρ (fun d => enumW d P) E
  | .zip a b, ρ, P, E => wpE Γ a ρ (fun x => wpE Γ b ρ (fun y => zipW x y P) E) E
end
end DL

set_option Elab.async false
set_option linter.all false
set_option maxRecDepth 100000
set_option maxHeartbeats 4000000
namespace DL
open PySem PySem.Spec PyProof.Rows L2

/-! ### a def's promise over data; what holds of the program -/
def spF (K : PySem.W.Frag) (ec : Str → Value) (φ : List Sl → (D → Prop) → (Str → Prop) → Prop) : Sp := fun vs H Q E =>
  ∃ (O : Addr → Prop) (dA : Option Addr) (dC : Addr) (as : List Sl) (P : D → Prop) (PE : Str → Prop), Dom O H ∧ (∀ a, dA = some a → O a ∧ DrawOk K O H a dC) ∧ Paired (SlotR K ⟨O, dA, dC, H⟩ O H) vs as ∧ φ as P PE ∧
    (∀ d, P d → ∀ v H', Stp K ⟨O, dA, dC, H⟩ O H H' → Dr K O H' v d → Q v H') ∧ ∀ x, PE x → ∀ H', Stp K ⟨O, dA, dC, H⟩ O H H' → E (ec x) none H'
structure Glb where
  P : Program
  w : World
  K : PySem.W.Frag
  mg : Str → Option Value
  base : Heap
  k : Nat
  Γ : Gam
  ec : Str → Value
structure FnIn (G : Glb) (f : Str) (φ : List Sl → (D → Prop) → (Str → Prop) → Prop) : Prop where
  ex : ∃ (a : Addr) (fd : FuncData) (ps : List Str), G.mg f = some (.ref a) ∧ PySem.W.keepIn G.K (.ref a) = true ∧ Binds G.K fd ps [] ∧ FnOk G.P G.w G.K G.mg G.base (L2.CX G.P G.w) G.k a fd ps (spF G.K G.ec φ)
structure GOk (G : Glb) : Prop where
  fn : ∀ f ∈ G.Γ.fs, FnIn G f (G.Γ.Φ f)
  bi : ∀ b : Bi, b ≠ .gcd → G.mg b.nm = none
  gcd : G.mg "gcd" = some (.builtin "math.gcd")
  rng : G.mg "range" = none
  enm : G.mg "enumerate" = none
  zip : G.mg "zip" = none
  isi : G.mg "isinstance" = none
  bool : G.mg "bool" = none
  set : G.mg "set" = none
  rev : G.mg "reversed" = none
  gl : ∀ (x : Str) (d : D), G.Γ.gl.lookup x = some d → ∃ u v, G.mg x = some u ∧ RelV v u ∧ Dr G.K (fun _ => False) (fun _ => none) v d
/-- the program's own exceptions (no __init__ of their own) -/
structure ExIn (G : Glb) (x : Str) (C : Addr) : Prop where
  mg : G.mg x = some (.ref C)
  ec : G.ec x = .ref C
  ex : PySem.W.excIn G.K C [.type "ValueError", .type "Exception", .type "BaseException", .type "object"] "ValueError.__new__" = true
  kp : PySem.W.keepIn G.K (.ref C) = true
  sub : PySem.W.subIn G.K (.ref C) (.type "BaseException") = some true
  ty : PySem.W.typeIn G.K (.ref C) = some (.type "type")
structure EOk (G : Glb) : Prop where
  ex : ∀ x ∈ G.Γ.exs, ∃ C, ExIn G x C
  one : ∀ x ∈ G.Γ.exs, ∀ y ∈ G.Γ.exs, PySem.W.exmOne G.K (G.ec x) (G.ec y) = some (decide (x = y))
structure XOk (G : Glb) (X : Cx) : Prop where
  prog : X.prog = G.P
  w : X.w = G.w
  K : X.K = G.K
  mg : X.mg = G.mg
  base : X.base = G.base
  calm : X.calm = true
  room : Room G.k X.A
  nd : X.N.Nodup
theorem XOk.hu {G : Glb} {X : Cx} (o : XOk G X) : X.A.units + 66 < cLine := by
  have := o.room.un
  omega

/-! ### what the grammar must be: checked by computing -/
structure Sx where
  N : List Str
  sc : Scope
  fn : Str → Bool
def visB (sc : Scope) (x : Str) : Bool := match sc.names.lookup x with
  | some .local => true
  | some .cell => true
  | some .free => true
  | _ => false
def glB (sc : Scope) (x : Str) : Bool := match sc.names.lookup x with
  | some .globalImplicit => !(x == ("__debug__" : Str))
  | _ => false
def locB (S : Sx) (x : Str) : Bool := match S.sc.names.lookup x with
  | some .local => true
  | some .cell => S.fn x
  | _ => false
def nmB (x : Str) : Bool := !(x == ("__debug__" : Str)) && !(x == ("__classdict__" : Str))
mutual
def mtT (S : Sx) : Tg → Expr → Bool
  | .n i, .Name x _ => decide (S.N[i]? = some x) && locB S x
  | .t ts, .Tuple es _ _ => mtTs S ts es
  | _, _ => false
def mtTs (S : Sx) : Tgs → List Expr → Bool
  | .nil, [] => true
  | .cons t ts, e :: es => mtT S t e && mtTs S ts es
  | _, _ => false
end
def isTup : Tg → Bool
  | .t _ => true
  | _ => false
/-- the value may be kept -/
def nb : Ex → Bool
  | .b _ => false
  | .ite _ a b => nb a && nb b
  | .and a b => nb a && nb b
  | .or a b => nb a && nb b
  | _ => true
def nbX : Exs → Bool
  | .nil => true
  | .cons e es => nb e && nbX es
  | .dr _ es => nbX es
def nodr : Exs → Bool
  | .nil => true
  | .cons _ es => nodr es
  | .dr _ _ => false
def lenX : Exs → Nat
  | .nil => 0
  | .cons _ es => lenX es + 1
  | .dr _ es => lenX es + 1
/-- a list that comes is new -/
def frs : Ex → Bool
  | .bin _ _ _ => true
  | .lst _ => true
  | .cut _ _ _ => true
  | .bi _ _ => true
  | .comp _ _ _ _ _ => true
  | .comp2 _ _ _ _ _ _ _ _ => true
  | .dsort _ _ => true
  | _ => false
def nbI : Ir → Bool
  | .seq e => nb e
  | .rng _ => true
  | .enum e => nb e
  | .zip a b => nb a && nb b
def isCmp : Expr → Bool
  | .ListComp .. => true
  | .SetComp .. => true
  | .DictComp .. => true
  | _ => false
/-- a test by its value's truth -/
def plainT : Expr → Bool
  | .UnaryOp .Not _ _ => false
  | .BoolOp .. => false
  | .IfExp .. => false
  | .Compare .. => false
  | _ => true
def inFs (Γ : Gam) (f : Str) : Bool := Γ.fs.any fun g => decide (g = f)
def blkS (S : Sx) (scope : Scope) : Sx := ⟨S.N, relS scope S.sc, fun x => scope.names.lookup x == some .cell⟩
mutual
/-- no conditional expression where a test stands -/
def tstB : Expr → Bool
  | .IfExp .. => false
  | .UnaryOp .Not e _ => tstB e
  | .BoolOp _ es _ => tstsB es
  | _ => true
def tstsB : List Expr → Bool
  | [] => true
  | e :: es => tstB e && tstsB es
end
mutual
def mtE (Γ : Gam) (S : Sx) : Ex → Expr → Bool
  | .v i, .Name x _ => decide (S.N[i]? = some x) && visB S.sc x && nmB x
  | .b i, .Name x _ => decide (S.N[i]? = some x) && visB S.sc x && nmB x
  | .int i, .Constant (.int j) _ _ => decide (i = j)
  | .bl b, .Constant (.bool c) _ _ => b == c
  | .non, .Constant .none _ _ => true
  | .str s, .Constant (.str t) _ _ => decide (s = t)
  | .g y, .Name x _ => decide (x = y) && (Γ.gl.lookup x).isSome && glB S.sc x
  | .bin op a b, .BinOp ea op' eb _ => decide (op = op') && mtE Γ S a ea && mtE Γ S b eb
  | .neg a, .UnaryOp .USub ea _ => mtE Γ S a ea
  | .cmp op a b, .Compare ea [op'] [eb] _ => decide (op = op') && mtE Γ S a ea && mtE Γ S b eb
  | .chain op op2 a b c, .Compare ea [op', op2'] [eb, ec] _ => decide (op = op') && decide (op2 = op2') && mtE Γ S a ea && mtE Γ S b eb && mtE Γ S c ec
  | .and a b, .BoolOp .And (ea :: eb :: r) pos => mtE Γ S a ea && (match r with
    | [] => mtE Γ S b eb
    | c :: r' => mtE Γ S b (.BoolOp .And (eb :: c :: r') pos))
  | .or a b, .BoolOp .Or (ea :: eb :: r) pos => mtE Γ S a ea && (match r with
    | [] => mtE Γ S b eb
    | c :: r' => mtE Γ S b (.BoolOp .Or (eb :: c :: r') pos))
  | .not a, .UnaryOp .Not ea _ => mtE Γ S a ea
  | .ite t a b, .IfExp et ea eb _ => mtE Γ S t et && tstB et && mtE Γ S a ea && mtE Γ S b eb
  | .tup es, .Tuple as _ _ => mtX Γ S es as && nbX es && nodr es && decide (lenX es ≤ 1000)
  | .lst es, .List as _ => mtX Γ S es as && nbX es && nodr es && decide (lenX es ≤ 1000)
  | .sub a i, .Subscript ea ei _ => mtE Γ S a ea && mtE Γ S i ei
  | .cut a lo hi, .Subscript ea (.Slice l h none _) _ => mtE Γ S a ea && mtO Γ S lo l && mtO Γ S hi h
  | .bi b es, .Call (.Name x _) as [] _ => decide (x = b.nm) && glB S.sc x && mtX Γ S es as && nodr es && decide (0 < lenX es)
  | .isi a T, .Call (.Name x _) [ea, .Name y _] [] _ => decide (x = ("isinstance" : Str)) && glB S.sc x && mtE Γ S a ea && glB S.sc y &&
      ((decide (y = ("int" : Str)) && T == "int") || (decide (y = ("bool" : Str)) && T == "bool") || (decide (y = ("str" : Str)) && T == "str") || (decide (y = ("tuple" : Str)) && T == "tuple") || (decide (y = ("list" : Str)) && T == "list"))
  | .call f es, .Call (.Name x _) as [] _ => decide (x = f) && inFs Γ f && glB S.sc x && mtX Γ S es as && nbX es && decide (0 < lenX es)
  | .comp own elt tg it ifs, .ListComp x [⟨t, i, cs, n⟩] scope _ => decide (n = 0) && blkC S.N S.sc scope own && ((slotsT tg).all fun j => (own.map (·.2)).contains j) && mtT (blkS S scope) tg t && mtI Γ S (isTup tg) it i && mtE Γ (blkS S scope) elt x && nb elt && mtC Γ (blkS S scope) ifs cs
  | .comp2 own elt tg it ifs tg1 it1 ifs1, .ListComp x [⟨t, i, cs, n⟩, ⟨t1, i1, cs1, n1⟩] scope _ => decide (n = 0) && decide (n1 = 0) && blkC S.N S.sc scope own && ((slotsT tg).all fun j => (own.map (·.2)).contains j) && ((slotsT tg1).all fun j => (own.map (·.2)).contains j) && mtT (blkS S scope) tg t && mtI Γ S (isTup tg) it i && mtC Γ (blkS S scope) ifs cs &&
      mtT (blkS S scope) tg1 t1 && mtI Γ (blkS S scope) (isTup tg1) it1 i1 && nbI it1 && mtC Γ (blkS S scope) ifs1 cs1 && mtE Γ (blkS S scope) elt x && nb elt
  | .setlen a, .Call (.Name x _) [.Call (.Name y _) [ea] [] _] [] _ => decide (x = ("len" : Str)) && decide (y = ("set" : Str)) && glB S.sc x && glB S.sc y && mtE Γ S a ea
  | .dget i k d, .Call (.Attribute (.Name x _) m ap) [ek, ed] [] cp => decide (m = ("get" : Str)) && decide (S.N[i]? = some x) && visB S.sc x && nmB x && mtE Γ S k ek && mtE Γ S d ed && nb k && nb d && ap.endLine == cp.line
  | .dsort it i, .Call (.Name f _) [.Call (.Attribute (.Name x _) m ap) [] [] cp] [] _ => decide (f = ("sorted" : Str)) && glB S.sc f && decide (m = (if it then ("items" : Str) else ("values" : Str))) && decide (S.N[i]? = some x) && visB S.sc x && nmB x && ap.endLine == cp.line
  | .rtup a, .Call (.Name x _) [.Call (.Name y _) [ea] [] _] [] _ => decide (x = ("tuple" : Str)) && decide (y = ("reversed" : Str)) && glB S.sc x && glB S.sc y && mtE Γ S a ea
  | .dead, .Call _ _ _ _ => true
  | _, _ => false
def mtX (Γ : Gam) (S : Sx) : Exs → List Expr → Bool
  | .nil, [] => true
  | .cons a es, e :: as => mtE Γ S a e && mtX Γ S es as
  | .dr i es, e :: as => (match e with
    | .Name x _ => decide (S.N[i]? = some x) && visB S.sc x && nmB x
    | _ => false) && mtX Γ S es as
  | _, _ => false
def mtO (Γ : Gam) (S : Sx) : Eo → Option Expr → Bool
  | .no, none => true
  | .so a, some e => mtE Γ S a e
  | _, _ => false
def mtC (Γ : Gam) (S : Sx) : Eo → List Expr → Bool
  | .no, [] => true
  | .so a, [e] => mtE Γ S a e && tstB e
  | _, _ => false
def mtI (Γ : Gam) (S : Sx) (tup : Bool) : Ir → Expr → Bool
  | .seq a, e => mtE Γ S a e
  | .rng es, .Call (.Name x _) as [] _ => decide (x = ("range" : Str)) && glB S.sc x && mtX Γ S es as && nodr es && (lenX es == 1 || lenX es == 2)
  | .enum a, .Call (.Name x _) [e] [] _ => decide (x = ("enumerate" : Str)) && glB S.sc x && mtE Γ S a e && tup
  | .zip a b, .Call (.Name x _) [e, e'] [] _ => decide (x = ("zip" : Str)) && glB S.sc x && mtE Γ S a e && mtE Γ S b e' && tup
  | _, _ => false
end
end DL

set_option Elab.async false
set_option linter.all false
set_option maxRecDepth 100000
set_option maxHeartbeats 4000000
namespace DL
open PySem PySem.Spec PyProof.Rows L2

/-! ### readings -/
structure ResR (K : PySem.W.Frag) (F : Fm) (O : Addr → Prop) (H H' : Hp) (a : Ex) (v : V) (d : D) : Prop where
  b : BDr K F.O0 O H' v d
  n : nb a = true → Dr K O H' v d
  f : frs a = true → Fr1 K O H H' v d
def ArgR (K : PySem.W.Frag) (F : Fm) (O : Addr → Prop) (H : Hp) (n : Bool) (v : V) : Sl → Prop
  | .fz d => BDr K F.O0 O H v d ∧ (n = true → Dr K O H v d)
  | .dr => ∃ a, F.dA = some a ∧ v = .ref a
  | .ow _ => False
  | .od _ => False
  | .lk _ _ _ => False
section
variable (K : PySem.W.Frag) (Γ : Gam) (ec : Str → Value) (W : WX)
def Er1 (F : Fm) (O : Addr → Prop) (H : Hp) (σ : L2.St) (E : Str → Prop) : Prop := ∀ x, E x → ∀ H', Stp K F O H H' → W (ec x) none σ H'
def tE (a : Ex) : TE := fun σ H Q => ∃ F O ρ P E, EnvR K F O H σ ρ ∧ wpE Γ a ρ P E ∧ (∀ d, P d → ∀ v H', Stp K F O H H' → ResR K F O H H' a v d → Q v H') ∧ Er1 K ec W F O H σ E
def tT (a : Ex) : TT := fun σ H Q => ∃ F O ρ P E, EnvR K F O H σ ρ ∧ wpE Γ a ρ P E ∧ (∀ d, P d → ∃ c, truD d = some c ∧ ∀ H', Stp K F O H H' → Q c H') ∧ Er1 K ec W F O H σ E
def tX (es : Exs) : TA := fun σ H Q => ∃ F O ρ P E, EnvR K F O H σ ρ ∧ wpX Γ es ρ P E ∧ (∀ ss, P ss → ∀ vs H', Stp K F O H H' → Paired (ArgR K F O H' (nbX es)) vs ss → vs.length = lenX es → Q vs H') ∧ Er1 K ec W F O H σ E
def tO (a : Eo) : TO := fun σ H Q => ∃ F O ρ P E, EnvR K F O H σ ρ ∧ wpO Γ a ρ P E ∧ (∀ l, P l → ∀ H', Stp K F O H H' → Q l H') ∧ Er1 K ec W F O H σ E
def tC (a : Eo) : TT := fun σ H Q => ∃ F O ρ P E, EnvR K F O H σ ρ ∧ wpC Γ a ρ P E ∧ (∀ c, P c → ∀ H', Stp K F O H H' → Q c H') ∧ Er1 K ec W F O H σ E
end
section
variable {K : PySem.W.Frag} {Γ : Gam} {ec : Str → Value} {W : WX} {F : Fm} {O : Addr → Prop} {H H' H1 : Hp} {σ : L2.St} {ρ : Rho} {E : Str → Prop}
theorem Er1.next (h : Er1 K ec W F O H σ E) (s : Stp K F O H H1) : Er1 K ec W F O H1 σ E := fun x e H' s' => h x e H' (s.trans s')
theorem Fr1.back {v : V} {d : D} (e : EnvR K F O H σ ρ) (s : Stp K F O H H1) (h : Fr1 K O H1 H' v d) : Fr1 K O H H' v d := fun ds q => by
  obtain ⟨p, xs, h1, h2, h3, h4⟩ := h ds q
  exact ⟨p, xs, h1, s.free e h2, h3, h4⟩
/-- a value-level step at the end of an expression -/
theorem ansF_of {a : Ex} {P : D → Prop} {Q : VK} (e : EnvR K F O H σ ρ) (s : Stp K F O H H1) (hP : ∀ d, P d → ∀ v H', Stp K F O H H' → ResR K F O H H' a v d → Q v H') : ∀ r, P r → AnsF K O H1 Q r :=
  fun r hr v H2 sm dr fr => hP r hr v H2 (s.trans (Stp.same (e.stp s) sm)) ⟨.inl dr, fun _ => dr, fun _ => fr.back e s⟩
theorem ans_of {a : Ex} {P : D → Prop} {Q : VK} (e : EnvR K F O H σ ρ) (s : Stp K F O H H1) (hf : frs a = false) (hP : ∀ d, P d → ∀ v H', Stp K F O H H' → ResR K F O H H' a v d → Q v H') : ∀ r, P r → Ans K O H1 Q r :=
  fun r hr v H2 sm dr => hP r hr v H2 (s.trans (Stp.same (e.stp s) sm)) ⟨.inl dr, fun _ => dr, fun h => by rw [hf] at h; cases h⟩
theorem res_dr {a : Ex} {v : V} {d : D} (h : Dr K O H v d) (hf : frs a = false ∨ ∀ ds, d ≠ .list ds) : ResR K F O H' H a v d :=
  ⟨.inl h, fun _ => h, fun q => by
    rcases hf with hf | hf
    · rw [hf] at q; cases q
    · exact .no hf⟩
theorem args_stp {n : Bool} {vs : List V} {ss : List Sl} (e : EnvR K F O H σ ρ) (s : Stp K F O H H1) (h : Paired (ArgR K F O H n) vs ss) : Paired (ArgR K F O H1 n) vs ss := by
  induction h with
  | nil => exact .nil
  | @cons v sl vs ss h1 _ ih =>
    refine .cons ?_ ih
    cases sl with
    | fz d => exact ⟨h1.1.stp e s, fun q => (h1.2 q).stp e s⟩
    | dr => exact h1
    | ow d => exact h1
    | od d => exact h1
    | lk _ _ _ => exact h1
theorem args_bdr {n : Bool} {vs : List V} {ss : List Sl} {ds : List D} (h : Paired (ArgR K F O H n) vs ss) : fzs ss = some ds → BDrA K F.O0 O H vs ds := by
  induction h generalizing ds with
  | nil => intro e; simp [fzs] at e; subst e; exact .nil
  | @cons v sl vs ss h1 _ ih =>
    intro e
    cases sl with
    | fz d =>
      simp only [fzs, Option.map_eq_some_iff] at e
      obtain ⟨r, e1, rfl⟩ := e
      exact .cons h1.1 (ih e1)
    | _ => simp [fzs] at e
theorem args_dr {vs : List V} {ss : List Sl} {ds : List D} (h : Paired (ArgR K F O H true) vs ss) : fzs ss = some ds → DrA K O H vs ds := by
  induction h generalizing ds with
  | nil => intro e; simp [fzs] at e; subst e; exact .nil
  | @cons v sl vs ss h1 _ ih =>
    intro e
    cases sl with
    | fz d =>
      simp only [fzs, Option.map_eq_some_iff] at e
      obtain ⟨r, e1, rfl⟩ := e
      exact .cons (h1.2 rfl) (ih e1)
    | _ => simp [fzs] at e
theorem Paired.len {α β : Type} {R : α → β → Prop} {xs : List α} {ys : List β} (h : Paired R xs ys) : xs.length = ys.length := by
  induction h with
  | nil => rfl
  | cons _ _ ih => exact congrArg (· + 1) ih
theorem fzs_len : ∀ {ss : List Sl} {ds : List D}, fzs ss = some ds → ss.length = ds.length
  | [], ds, e => by simp [fzs] at e; subst e; rfl
  | s :: ss, ds, e => by
    cases s with
    | fz d =>
      simp only [fzs, Option.map_eq_some_iff] at e
      obtain ⟨r, e1, rfl⟩ := e
      exact congrArg (· + 1) (fzs_len e1)
    | _ => simp [fzs] at e
end

section
variable {X : Cx} {Γ : Gam} {ec : Str → Value} {W : WX} {a b c t : Ex} {ea eb ec' et : Expr} {pos : Pos}
theorem PE.conseq {e : Expr} {t t' : TE} (h : PE X e t) (i : ∀ σ H Q, t' σ H Q → t σ H Q) : PE X e t' := ⟨fun pins s σ H Q I w => h.run pins s σ H Q I (i σ H Q w)⟩
theorem PT.conseq {e : Expr} {t t' : TT} (h : PT X e t) (i : ∀ σ H Q, t' σ H Q → t σ H Q) : PT X e t' := ⟨fun pins s σ H Q I w => h.run pins s σ H Q I (i σ H Q w)⟩
theorem PW.conseq {e : Expr} {t t' : TT} (h : PW X e t) (i : ∀ σ H Q, t' σ H Q → t σ H Q) : PW X e t' := ⟨fun wh pins s σ H Q I w => h.run wh pins s σ H Q I (i σ H Q w)⟩
theorem PA.conseq {e : List Expr} {t t' : TA} (h : PA X e t) (i : ∀ σ H Q, t' σ H Q → t σ H Q) : PA X e t' := ⟨fun p pins s σ H Q I w => h.run p pins s σ H Q I (i σ H Q w)⟩

abbrev SE (X : Cx) (Γ : Gam) (ec : Str → Value) (W : WX) (a : Ex) (e : Expr) : Prop := PE X e (tE X.K Γ ec W a)
abbrev SA (X : Cx) (Γ : Gam) (ec : Str → Value) (W : WX) (a : Exs) (e : List Expr) : Prop := PA X e (tX X.K Γ ec W a)

/-! names and constants -/
theorem snd_v {i : Nat} {x : Str} (hN : X.N[i]? = some x) (hv : Vis X.env.scope x) (hd : (x == ("__debug__" : Str)) = false) (hcd : (x == ("__classdict__" : Str)) = false) : SE X Γ ec W (.v i) (.Name x pos) := by
  refine PE.conseq (pe_var hN hv hd hcd) fun σ H Q h => ?_
  obtain ⟨F, O, ρ, P, E, e, w, hP, hE⟩ := h
  unfold wpE at w
  split at w
  · rename_i d hi
    obtain ⟨v, h1, h2⟩ := e.fz hi
    exact ⟨v, h1, hP _ w v H (Stp.refl e) (res_dr h2 (.inl rfl))⟩
  · exact w.elim
theorem snd_b {i : Nat} {x : Str} (hN : X.N[i]? = some x) (hv : Vis X.env.scope x) (hd : (x == ("__debug__" : Str)) = false) (hcd : (x == ("__classdict__" : Str)) = false) : SE X Γ ec W (.b i) (.Name x pos) := by
  refine PE.conseq (pe_var hN hv hd hcd) fun σ H Q h => ?_
  obtain ⟨F, O, ρ, P, E, e, w, hP, hE⟩ := h
  unfold wpE at w
  split at w
  · rename_i d hi
    obtain ⟨v, h1, h2⟩ := e.fz hi
    exact ⟨v, h1, hP _ w v H (Stp.refl e) (res_dr h2 (.inl rfl))⟩
  · rename_i d hi
    obtain ⟨v, h1, h2⟩ := e.owB hi
    exact ⟨v, h1, hP _ w v H (Stp.refl e) ⟨h2, fun q => by simp [nb] at q, fun q => by simp [frs] at q⟩⟩
  · rename_i a xs ds hi
    obtain ⟨v, h1, h2⟩ := e.lkB hi
    exact ⟨v, h1, hP _ w v H (Stp.refl e) ⟨h2, fun q => by simp [nb] at q, fun q => by simp [frs] at q⟩⟩
  · exact w.elim
theorem snd_int {i : Int} {j : Nat} : SE X Γ ec W (.int i) (.Constant (.int i) j pos) := PE.conseq pe_int fun σ H Q h => by
  obtain ⟨F, O, ρ, P, E, e, w, hP, hE⟩ := h
  exact hP _ w _ H (Stp.refl e) (res_dr (.int i) (.inl rfl))
theorem snd_bl {i : Bool} {j : Nat} : SE X Γ ec W (.bl i) (.Constant (.bool i) j pos) := PE.conseq pe_bl fun σ H Q h => by
  obtain ⟨F, O, ρ, P, E, e, w, hP, hE⟩ := h
  exact hP _ w _ H (Stp.refl e) (res_dr (.bl i) (.inl rfl))
theorem snd_non {j : Nat} : SE X Γ ec W .non (.Constant .none j pos) := PE.conseq pe_non fun σ H Q h => by
  obtain ⟨F, O, ρ, P, E, e, w, hP, hE⟩ := h
  exact hP _ w _ H (Stp.refl e) (res_dr .non (.inl rfl))
theorem snd_str {i : Str} {j : Nat} : SE X Γ ec W (.str i) (.Constant (.str i) j pos) := PE.conseq pe_str fun σ H Q h => by
  obtain ⟨F, O, ρ, P, E, e, w, hP, hE⟩ := h
  exact hP _ w _ H (Stp.refl e) (res_dr (.str i) (.inl rfl))
theorem snd_g {x : Str} {d : D} {u : Value} {v : V} (hk : Γ.gl.lookup x = some d) (hg : Gl X x) (hm : X.mg x = some u) (r : RelV v u) (hd : Dr X.K (fun _ => False) (fun _ => none) v d) (hdb : (x == ("__debug__" : Str)) = false) : SE X Γ ec W (.g x) (.Name x pos) :=
  PE.conseq (pe_glob hg hm r hdb) fun σ H Q h => by
    obtain ⟨F, O, ρ, P, E, e, w, hP, hE⟩ := h
    unfold wpE at w
    rw [hk] at w
    have w : P d := w
    exact hP _ w _ H (Stp.refl e) (res_dr (Dr.stay (fun _ _ q => by cases q) (fun _ _ _ q => by cases q) d v hd) (.inl rfl))
/-! operators -/
theorem snd_bin {op : Operator} (ha : SE X Γ ec W a ea) (hb : SE X Γ ec W b eb) : SE X Γ ec W (.bin op a b) (.BinOp ea op eb pos) := by
  refine PE.conseq (pe_op (op_F op) ha hb) fun σ H Q h => ?_
  obtain ⟨F, O, ρ, P, E, e, w, hP, hE⟩ := h
  unfold wpE at w
  refine ⟨F, O, ρ, _, E, e, w, fun x hx v H1 s1 r1 => ?_, hE⟩
  refine ⟨F, O, ρ, _, E, e.stp s1, hx, fun y hy u H2 s2 r2 => ?_, hE.next s1⟩
  exact ⟨F.O0, O, x, y, ((e.stp s1).stp s2).dom, r1.b.stp (e.stp s1) s2, r2.b, P, hy, ansF_of e (s1.trans s2) hP⟩
theorem snd_neg (ha : SE X Γ ec W a ea) : SE X Γ ec W (.neg a) (.UnaryOp .USub ea pos) := by
  refine PE.conseq (pe_un un_dNeg ha) fun σ H Q h => ?_
  obtain ⟨F, O, ρ, P, E, e, w, hP, hE⟩ := h
  unfold wpE at w
  refine ⟨F, O, ρ, _, E, e, w, fun x hx v H1 s1 r1 => ?_, hE⟩
  exact ⟨F.O0, O, x, (e.stp s1).dom, r1.b, P, hx, ansF_of e s1 hP⟩
theorem tE_cmp {op : CmpOp} {σ : L2.St} {H : Hp} {Q : VK} (h : tE X.K Γ ec W (.cmp op a b) σ H Q) : tOp (R2D X.K (cmpF op)) (tE X.K Γ ec W a) (tE X.K Γ ec W b) σ H Q := by
  obtain ⟨F, O, ρ, P, E, e, w, hP, hE⟩ := h
  unfold wpE at w
  refine ⟨F, O, ρ, _, E, e, w, fun x hx v H1 s1 r1 => ?_, hE⟩
  refine ⟨F, O, ρ, _, E, e.stp s1, hx, fun y hy u H2 s2 r2 => ?_, hE.next s1⟩
  exact ⟨F.O0, O, x, y, ((e.stp s1).stp s2).dom, r1.b.stp (e.stp s1) s2, r2.b, P, hy, ansF_of e (s1.trans s2) hP⟩
/-- a test whose value is a truth value -/
theorem tT_cmp {op : CmpOp} {σ : L2.St} {H : Hp} {Q : Bool → Hp → Prop} (h : tT X.K Γ ec W (.cmp op a b) σ H Q) : tTest (tOp (R2D X.K (cmpF op)) (tE X.K Γ ec W a) (tE X.K Γ ec W b)) σ H Q := by
  obtain ⟨F, O, ρ, P, E, e, w, hP, hE⟩ := h
  unfold wpE at w
  refine ⟨F, O, ρ, _, E, e, w, fun x hx v H1 s1 r1 => ?_, hE⟩
  refine ⟨F, O, ρ, _, E, e.stp s1, hx, fun y hy u H2 s2 r2 => ?_, hE.next s1⟩
  refine ⟨F.O0, O, x, y, ((e.stp s1).stp s2).dom, r1.b.stp (e.stp s1) s2, r2.b, _, cmpF_bool hy, fun r hr w H3 sm dr fr => ?_⟩
  obtain ⟨hr, k, rfl⟩ := hr
  obtain ⟨c, hc, q⟩ := hP _ hr
  cases hc
  cases dr
  exact ⟨_, rfl, q H3 ((s1.trans s2).trans (Stp.same ((e.stp s1).stp s2) sm))⟩
theorem snd_cmp {op : CmpOp} (hu : X.A.units + 66 < cLine) (ha : SE X Γ ec W a ea) (hb : SE X Γ ec W b eb) (hm : behindInMarks op eb = false) : SE X Γ ec W (.cmp op a b) (.Compare ea [op] [eb] pos) :=
  PE.conseq (pe_cmpR (cmp_F (by omega) op) ha hb hm) fun σ H Q h => tE_cmp h
theorem snt_cmp {op : CmpOp} (hu : X.A.units + 66 < cLine) (ha : SE X Γ ec W a ea) (hb : SE X Γ ec W b eb) (hm : behindInMarks op eb = false) : PT X (.Compare ea [op] [eb] pos) (tT X.K Γ ec W (.cmp op a b)) :=
  PT.conseq (pt_cmpR (cmp_F (by omega) op) ha hb hm) fun σ H Q h => tT_cmp h
/-! and, or, not, if -/
theorem snd_and {r : List Expr} (ha : SE X Γ ec W a ea) (hb : SE X Γ ec W b (.BoolOp .And (eb :: r) pos)) : SE X Γ ec W (.and a b) (.BoolOp .And (ea :: eb :: r) pos) := by
  refine PE.conseq (pe_andT ha hb) fun σ H Q h => ?_
  obtain ⟨F, O, ρ, P, E, e, w, hP, hE⟩ := h
  unfold wpE at w
  refine ⟨F, O, ρ, _, E, e, w, fun x hx v H1 s1 r1 => ?_, hE⟩
  obtain ⟨c, hc, q⟩ := optQ_iff hx
  refine ⟨c, tru_d r1.b hc, ?_⟩
  cases c with
  | true =>
    rw [if_pos rfl] at q ⊢
    refine ⟨F, O, ρ, P, E, e.stp s1, q, fun d hd u H2 s2 r2 => ?_, hE.next s1⟩
    exact hP d hd u H2 (s1.trans s2) ⟨r2.b, fun n => r2.n (by simp only [nb, Bool.and_eq_true] at n; exact n.2), fun n => (nomatch n)⟩
  | false =>
    rw [if_neg Bool.false_ne_true] at q ⊢
    exact hP x q v H1 s1 ⟨r1.b, fun n => r1.n (by simp only [nb, Bool.and_eq_true] at n; exact n.1), fun n => (nomatch n)⟩
theorem snd_or {r : List Expr} (ha : SE X Γ ec W a ea) (hb : SE X Γ ec W b (.BoolOp .Or (eb :: r) pos)) : SE X Γ ec W (.or a b) (.BoolOp .Or (ea :: eb :: r) pos) := by
  refine PE.conseq (pe_orT ha hb) fun σ H Q h => ?_
  obtain ⟨F, O, ρ, P, E, e, w, hP, hE⟩ := h
  unfold wpE at w
  refine ⟨F, O, ρ, _, E, e, w, fun x hx v H1 s1 r1 => ?_, hE⟩
  obtain ⟨c, hc, q⟩ := optQ_iff hx
  refine ⟨c, tru_d r1.b hc, ?_⟩
  cases c with
  | false =>
    rw [if_neg Bool.false_ne_true] at q ⊢
    refine ⟨F, O, ρ, P, E, e.stp s1, q, fun d hd u H2 s2 r2 => ?_, hE.next s1⟩
    exact hP d hd u H2 (s1.trans s2) ⟨r2.b, fun n => r2.n (by simp only [nb, Bool.and_eq_true] at n; exact n.2), fun n => (nomatch n)⟩
  | true =>
    rw [if_pos rfl] at q ⊢
    exact hP x q v H1 s1 ⟨r1.b, fun n => r1.n (by simp only [nb, Bool.and_eq_true] at n; exact n.1), fun n => (nomatch n)⟩
theorem snd_one {op : BoolOp} (ha : SE X Γ ec W a ea) : SE X Γ ec W a (.BoolOp op [ea] pos) := pe_one ha
theorem snd_not (ha : SE X Γ ec W a ea) : SE X Γ ec W (.not a) (.UnaryOp .Not ea pos) := by
  refine PE.conseq (pe_notT ha) fun σ H Q h => ?_
  obtain ⟨F, O, ρ, P, E, e, w, hP, hE⟩ := h
  unfold wpE at w
  refine ⟨F, O, ρ, _, E, e, w, fun x hx v H1 s1 r1 => ?_, hE⟩
  obtain ⟨c, hc, q⟩ := optQ_iff hx
  exact ⟨c, tru_d r1.b hc, hP _ q _ H1 s1 (res_dr (.bl _) (.inl rfl))⟩
theorem snd_ite (ht : PT X et (tT X.K Γ ec W t)) (ha : SE X Γ ec W a ea) (hb : SE X Γ ec W b eb) : SE X Γ ec W (.ite t a b) (.IfExp et ea eb pos) := by
  refine PE.conseq (pe_ifExp ht ha hb) fun σ H Q h => ?_
  obtain ⟨F, O, ρ, P, E, e, w, hP, hE⟩ := h
  unfold wpE at w
  refine ⟨F, O, ρ, _, E, e, w, fun x hx => ?_, hE⟩
  obtain ⟨c, hc, q⟩ := optQ_iff hx
  refine ⟨c, hc, fun H1 s1 => ?_⟩
  cases c with
  | true =>
    rw [if_pos rfl] at q ⊢
    refine ⟨F, O, ρ, P, E, e.stp s1, q, fun d hd u H2 s2 r2 => ?_, hE.next s1⟩
    exact hP d hd u H2 (s1.trans s2) ⟨r2.b, fun n => r2.n (by simp only [nb, Bool.and_eq_true] at n; exact n.1), fun n => (nomatch n)⟩
  | false =>
    rw [if_neg Bool.false_ne_true] at q ⊢
    refine ⟨F, O, ρ, P, E, e.stp s1, q, fun d hd u H2 s2 r2 => ?_, hE.next s1⟩
    exact hP d hd u H2 (s1.trans s2) ⟨r2.b, fun n => r2.n (by simp only [nb, Bool.and_eq_true] at n; exact n.2), fun n => (nomatch n)⟩
/-! tests -/
theorem snt_plain (ha : SE X Γ ec W a ea) (he : ∀ whole, isTrue ea X.env whole = (do let v ← whole; standAt ea.pos; holding [v] (truthy v))) : PT X ea (tT X.K Γ ec W a) := by
  refine PT.conseq (pt_truth ha he) fun σ H Q h => ?_
  obtain ⟨F, O, ρ, P, E, e, w, hP, hE⟩ := h
  refine ⟨F, O, ρ, P, E, e, w, fun d hd v H1 s1 r1 => ?_, hE⟩
  obtain ⟨c, hc, q⟩ := hP d hd
  exact ⟨c, tru_d r1.b hc, q H1 s1⟩
theorem snt_not (ha : PT X ea (tT X.K Γ ec W a)) : PT X (.UnaryOp .Not ea pos) (tT X.K Γ ec W (.not a)) := by
  refine PT.conseq (pt_not ha) fun σ H Q h => ?_
  obtain ⟨F, O, ρ, P, E, e, w, hP, hE⟩ := h
  unfold wpE at w
  refine ⟨F, O, ρ, _, E, e, w, fun x hx => ?_, hE⟩
  obtain ⟨c, hc, q⟩ := optQ_iff hx
  obtain ⟨c', hc', q'⟩ := hP _ q
  cases hc'
  exact ⟨c, hc, q'⟩
theorem tT_and {σ : L2.St} {H : Hp} {Q : Bool → Hp → Prop} (h : tT X.K Γ ec W (.and a b) σ H Q) : tAnd (tT X.K Γ ec W a) (tT X.K Γ ec W b) σ H Q := by
  obtain ⟨F, O, ρ, P, E, e, w, hP, hE⟩ := h
  unfold wpE at w
  refine ⟨F, O, ρ, _, E, e, w, fun x hx => ?_, hE⟩
  obtain ⟨c, hc, q⟩ := optQ_iff hx
  refine ⟨c, hc, fun H1 s1 => ?_⟩
  cases c with
  | true =>
    rw [if_pos rfl] at q ⊢
    refine ⟨F, O, ρ, P, E, e.stp s1, q, fun d hd => ?_, hE.next s1⟩
    obtain ⟨c', hc', q'⟩ := hP d hd
    exact ⟨c', hc', fun H2 s2 => q' H2 (s1.trans s2)⟩
  | false =>
    rw [if_neg Bool.false_ne_true] at q ⊢
    obtain ⟨c', hc', q'⟩ := hP x q
    rw [hc] at hc'
    cases hc'
    exact q' H1 s1
theorem tT_or {σ : L2.St} {H : Hp} {Q : Bool → Hp → Prop} (h : tT X.K Γ ec W (.or a b) σ H Q) : tOr (tT X.K Γ ec W a) (tT X.K Γ ec W b) σ H Q := by
  obtain ⟨F, O, ρ, P, E, e, w, hP, hE⟩ := h
  unfold wpE at w
  refine ⟨F, O, ρ, _, E, e, w, fun x hx => ?_, hE⟩
  obtain ⟨c, hc, q⟩ := optQ_iff hx
  refine ⟨c, hc, fun H1 s1 => ?_⟩
  cases c with
  | false =>
    rw [if_neg Bool.false_ne_true] at q ⊢
    refine ⟨F, O, ρ, P, E, e.stp s1, q, fun d hd => ?_, hE.next s1⟩
    obtain ⟨c', hc', q'⟩ := hP d hd
    exact ⟨c', hc', fun H2 s2 => q' H2 (s1.trans s2)⟩
  | true =>
    rw [if_pos rfl] at q ⊢
    obtain ⟨c', hc', q'⟩ := hP x q
    rw [hc] at hc'
    cases hc'
    exact q' H1 s1
/-! argument lists, displays -/
theorem sna_nil : SA X Γ ec W .nil [] := by
  refine PA.conseq pa_nil fun σ H Q h => ?_
  obtain ⟨F, O, ρ, P, E, e, w, hP, hE⟩ := h
  exact hP [] w [] H (Stp.refl e) .nil rfl
theorem sna_cons {es : Exs} {eas : List Expr} (ha : SE X Γ ec W a ea) (hr : SA X Γ ec W es eas) (hs : starEach (ea :: eas) X.env = (false, eval ea X.env) :: starEach eas X.env) : SA X Γ ec W (.cons a es) (ea :: eas) := by
  refine PA.conseq (pa_cons ha hr hs) fun σ H Q h => ?_
  obtain ⟨F, O, ρ, P, E, e, w, hP, hE⟩ := h
  unfold wpX at w
  refine ⟨F, O, ρ, _, E, e, w, fun x hx v H1 s1 r1 => ?_, hE⟩
  refine ⟨F, O, ρ, _, E, e.stp s1, hx, fun ss hss vs H2 s2 r2 l2 => ?_, hE.next s1⟩
  refine hP _ hss _ H2 (s1.trans s2) (.cons ⟨r1.b.stp (e.stp s1) s2, fun n => (r1.n (by simp only [nbX, Bool.and_eq_true] at n; exact n.1)).stp (e.stp s1) s2⟩ ?_) (by rw [List.length_cons, l2]; rfl)
  refine Paired.mapP r2 fun v sl q => ?_
  cases sl with
  | fz d => exact ⟨q.1, fun n => q.2 (by simp only [nbX, Bool.and_eq_true] at n; exact n.2)⟩
  | dr => exact q
  | ow d => exact q
  | od d => exact q
  | lk _ _ _ => exact q
theorem sna_dr {es : Exs} {eas : List Expr} {i : Nat} {x : Str} {p : Pos} (hN : X.N[i]? = some x) (hv : Vis X.env.scope x) (hd : (x == ("__debug__" : Str)) = false) (hcd : (x == ("__classdict__" : Str)) = false) (hr : SA X Γ ec W es eas) :
    SA X Γ ec W (.dr i es) (.Name x p :: eas) := by
  refine PA.conseq (pa_cons (pe_var hN hv hd hcd) hr rfl) fun σ H Q h => ?_
  obtain ⟨F, O, ρ, P, E, e, w, hP, hE⟩ := h
  unfold wpX at w
  split at w
  · rename_i hi
    obtain ⟨v, h1, h2⟩ := e.slot i _ hi
    refine ⟨v, h1, F, O, ρ, _, E, e, w, fun ss hss vs H2 s2 r2 l2 => ?_, hE⟩
    exact hP _ hss _ H2 s2 (.cons h2 r2) (by rw [List.length_cons, l2]; rfl)
  · exact w.elim
theorem wpX_len {es : Exs} {ρ : Rho} : ∀ {P : List Sl → Prop} {E : Str → Prop} {K : PySem.W.Frag} {F : Fm} {O : Addr → Prop} {H : Hp} {n : Bool} {vs : List V} {ss : List Sl}, Paired (ArgR K F O H n) vs ss → vs.length = ss.length := fun h => Paired.len h
theorem snd_tup {es : Exs} {eas : List Expr} {k : Nat} (ha : SA X Γ ec W es eas) (hn : nbX es = true) (h9 : lenX es ≤ 1000) : SE X Γ ec W (.tup es) (.Tuple eas k pos) := by
  refine PE.conseq (pe_tup ha) fun σ H Q h => ?_
  obtain ⟨F, O, ρ, P, E, e, w, hP, hE⟩ := h
  unfold wpE at w
  refine ⟨F, O, ρ, _, E, e, w, fun ss hss vs H1 s1 r1 hlen => ?_, hE⟩
  obtain ⟨ds, hds, q⟩ := optQ_iff hss
  rw [hn] at r1
  have hz : (1000 : Nat) ≤ sizeLine := by rw [sizeLine_eq]; decide
  refine ⟨by rw [hlen]; omega, ?_⟩
  exact (ansF_of (a := .tup es) e s1 hP _ q).tup (e.stp s1).dom (args_dr r1 hds)
theorem snd_lst {es : Exs} {eas : List Expr} (ha : SA X Γ ec W es eas) (hn : nbX es = true) (h9 : lenX es ≤ 1000) : SE X Γ ec W (.lst es) (.List eas pos) := by
  refine PE.conseq (pe_lst ha) fun σ H Q h => ?_
  obtain ⟨F, O, ρ, P, E, e, w, hP, hE⟩ := h
  unfold wpE at w
  refine ⟨F, O, ρ, _, E, e, w, fun ss hss vs H1 s1 r1 hlen => ?_, hE⟩
  obtain ⟨ds, hds, q⟩ := optQ_iff hss
  rw [hn] at r1
  have hz : (1000 : Nat) ≤ sizeLine := by rw [sizeLine_eq]; decide
  refine ⟨by rw [hlen]; omega, ?_⟩
  exact (ansF_of (a := .lst es) e s1 hP _ q).lst (e.stp s1).dom (args_dr r1 hds)
/-! subscripts, slices -/
theorem snd_sub (ha : SE X Γ ec W a ea) (hb : SE X Γ ec W b eb) (hs : PlainIx eb) : SE X Γ ec W (.sub a b) (.Subscript ea eb pos) := by
  refine PE.conseq (pe_ix ix_d ha hb hs) fun σ H Q h => ?_
  obtain ⟨F, O, ρ, P, E, e, w, hP, hE⟩ := h
  unfold wpE at w
  refine ⟨F, O, ρ, _, E, e, w, fun x hx v H1 s1 r1 => ?_, hE⟩
  refine ⟨F, O, ρ, _, E, e.stp s1, hx, fun y hy u H2 s2 r2 => ?_, hE.next s1⟩
  exact ⟨F.O0, O, x, y, ((e.stp s1).stp s2).dom, r1.b.stp (e.stp s1) s2, r2.b, P, hy, ans_of e (s1.trans s2) rfl hP⟩
theorem sno_no : PO X none (tO X.K Γ ec W .no) := ⟨fun pins s σ H Q I h => po_none.run pins s σ H Q I (by
  obtain ⟨F, O, ρ, P, E, e, w, hP, hE⟩ := h
  exact hP none w H (Stp.refl e))⟩
theorem sno_so (ha : SE X Γ ec W a ea) : PO X (some ea) (tO X.K Γ ec W (.so a)) := ⟨fun pins s σ H Q I h => (po_some ha).run pins s σ H Q I (by
  obtain ⟨F, O, ρ, P, E, e, w, hP, hE⟩ := h
  unfold wpO at w
  refine ⟨F, O, ρ, _, E, e, w, fun x hx v H1 s1 r1 => ?_, hE⟩
  cases x with
  | int i =>
    have hx' : P (some i) := hx
    exact ⟨i, r1.b.int, hP _ hx' H1 s1⟩
  | _ => exact hx.elim)⟩
theorem snd_cut {lo hi : Eo} {el eh : Option Expr} {p2 : Pos} (ha : SE X Γ ec W a ea) (hl : PO X el (tO X.K Γ ec W lo)) (hh : PO X eh (tO X.K Γ ec W hi)) : SE X Γ ec W (.cut a lo hi) (.Subscript ea (.Slice el eh none p2) pos) := by
  refine PE.conseq (pe_slice sl_d ha hl hh) fun σ H Q h => ?_
  obtain ⟨F, O, ρ, P, E, e, w, hP, hE⟩ := h
  unfold wpE at w
  refine ⟨F, O, ρ, _, E, e, w, fun x hx v H1 s1 r1 => ?_, hE⟩
  refine ⟨F, O, ρ, _, E, e.stp s1, hx, fun l hl H2 s2 => ?_, hE.next s1⟩
  refine ⟨F, O, ρ, _, E, (e.stp s1).stp s2, hl, fun u hu H3 s3 => ?_, (hE.next s1).next s2⟩
  exact ⟨F.O0, O, x, (((e.stp s1).stp s2).stp s3).dom, r1.b.stp (e.stp s1) (s2.trans s3), P, hu, ansF_of e (s1.trans (s2.trans s3)) hP⟩
/-! dicts -/
def tDGetN (K : PySem.W.Frag) (to tk td : TE) : TE := fun σ H Q => to σ H fun x H1 => ∃ a, x = .ref a ∧ (∃ xs, H1 a = some (dctO a xs)) ∧ tk σ H1 fun y H2 => td σ H2 fun z H3 => ∃ (b : Addr) (O : Addr → Prop) (xs : List EnV) (kvs : List (NestedKey × D)) (k : NestedKey), y = .ref b ∧ H3 a = some (dctO a xs) ∧ DV K O H3 xs kvs ∧ keyOkK k ∧ Dr K O H3 (.ref b) k.data ∧
  ∀ v, (lookX xs k = some v ∨ (lookX xs k = none ∧ v = z)) → Q v H3
theorem dict_type {pins : List (Addr × Obj)} {σ : L2.St} {H : Hp} {s : Shared} {a : Addr} {xs : List EnV} (I : Inv X pins σ H s) (e : H a = some (dctO a xs)) : s.TypeIs (.ref a) "dict" ∧ ∀ b, Value.ref a = .ref b → ∃ ob, s.heap.get? b = some ob ∧ ob.dict = none := by
  obtain ⟨⟨_, _, _, _, _, _, _, o, es, ep, ho, hx, hd, _⟩, _, _⟩ := (show ObjOk X.prog X.w H s.heap a (dctO a xs) from I.hok a _ e)
  exact ⟨⟨o, ho, hx.1⟩, fun b q => by cases q; exact ⟨o, ho, hx.2.1⟩⟩
theorem pe_dgetN {o e f : Expr} {apos cpos : Pos} {to tk td : TE} (hu : X.A.units + 66 < cLine) (ho : PE X o to) (he : PE X e tk) (hf : PE X f td) (m : M2 X o "get" apos e f cpos) : PE X (.Call (.Attribute o "get" apos) [e, f] [] cpos) (tDGetN X.K to tk td) := by
  refine ⟨fun pins s σ H Q I h => ?_⟩
  refine wpAny_Call_method m.base m.few m.line PySem.F.plainAttrs_dict PySem.F.slot_dict_get PySem.F.type_dict_get (thn (ho.run pins s σ H _ I h) fun u s1 ⟨x, H1, I1, rx, a, ex, ⟨xs0, d⟩, q1⟩ => ?_)
  subst ex
  obtain rfl : u = Value.ref a := rx
  obtain ⟨t1, t2⟩ := dict_type I1 d
  refine ⟨t1, t2, ?_⟩
  rw [m.trees]
  refine Calls.callWith_builtin rfl (Calls.evalArgs_plain (Calls.spliced_cons (thn (he.run pins s1 σ H1 _ I1 q1) fun iv s2 ⟨y, H2, I2, ry, q2⟩ =>
    Calls.spliced_cons (thn (hf.run pins s2 σ H2 _ I2 q2) fun fv s3 ⟨z, H3, I3, rz, b, O, xs, kvs, k, ey, ha, dv, hk, hb, q⟩ => Calls.spliced_nil ?_))))
  subst ey
  cases ry
  exact d_getN (by show X.A.units + 1 + 8 < cLine; omega) I3 ha dv hk hb rz fun v u' s' I' rv hv => ⟨v, H3, I', rv, q v hv⟩
theorem snd_dget {i : Nat} {x : Str} {k d : Ex} {ek ed : Expr} {p ap cp : Pos} (hu : X.A.units + 66 < cLine) (hN : X.N[i]? = some x) (hv : Vis X.env.scope x) (hd : (x == ("__debug__" : Str)) = false) (hcd : (x == ("__classdict__" : Str)) = false)
    (hk : SE X Γ ec W k ek) (hdd : SE X Γ ec W d ed) (nk : nb k = true) (nd : nb d = true) (m : M2 X (.Name x p) "get" ap ek ed cp) : SE X Γ ec W (.dget i k d) (.Call (.Attribute (.Name x p) "get" ap) [ek, ed] [] cp) := by
  refine PE.conseq (pe_dgetN hu (pe_var hN hv hd hcd) hk hdd m) fun σ H Q h => ?_
  obtain ⟨F, O, ρ, P, E, e, w, hP, hE⟩ := h
  unfold wpE at w
  split at w
  · rename_i kvs hi
    obtain ⟨a, xs, g1, g2, g3, g4, g5⟩ := e.odAt hi
    refine ⟨.ref a, g1, a, rfl, ⟨xs, g4⟩, F, O, ρ, _, E, e, w, fun y hy u H1 s1 r1 => ?_, hE⟩
    obtain ⟨kk, hkk, hy2⟩ := optQ_iff hy
    obtain ⟨e1, e2, ds, rfl⟩ := keyT_ok hkk
    have en1 := e.stp s1
    refine ⟨F, O, ρ, _, E, en1, hy2, fun z hz u2 H2 s2 r2 => ?_, hE.next s1⟩
    have en2 := en1.stp s2
    have dk := (r1.n nk).stp en1 s2
    obtain ⟨b, rfl⟩ : ∃ b, u = .ref b := by cases dk; exact ⟨_, rfl⟩
    have g4' := (s1.trans s2).keep _ _ (e.ndo g3) g4
    have g5' : DV X.K O H2 xs kvs := Paired.mapP g5 fun x p q => ⟨q.1, (q.2.1.stp e s1).stp en1 s2, (q.2.2.stp e s1).stp en1 s2⟩
    refine ⟨b, O, xs, kvs, kk, rfl, g4', g5', e2, by rw [e1]; exact dk, fun v hv => ?_⟩
    rcases dv_look g5' kk with ⟨f1, f2⟩ | ⟨v0, d0, f1, f2, f3⟩
    · rcases hv with hv | ⟨_, rfl⟩
      · rw [f1] at hv; cases hv
      · rw [f2] at hz
        exact hP _ hz _ H2 (s1.trans s2) (res_dr (r2.n nd) (.inl rfl))
    · rcases hv with hv | ⟨hv, _⟩
      · rw [f1] at hv
        cases hv
        rw [f2] at hz
        exact hP _ hz _ H2 (s1.trans s2) (res_dr f3 (.inl rfl))
      · rw [f1] at hv; cases hv
  · exact w.elim
def tViewN (K : PySem.W.Frag) (it : Bool) (to : TE) : TE := fun σ H Q => to σ H fun x H1 => ∃ (a : Addr) (O : Addr → Prop) (xs : List EnV) (kvs : List (NestedKey × D)), x = .ref a ∧ H1 a = some (dctO a xs) ∧ DV K O H1 xs kvs ∧ ∀ p, H1 p = none → Q (.ref p) (upd H1 p (viewO it p a))
theorem pe_viewN {o : Expr} {apos cpos : Pos} {to : TE} (it : Bool) (ho : PE X o to) (hbase : attributeBase o (if it then "items" else "values") X.env (eval o X.env) = eval o X.env) (hline : (apos.endLine == cpos.line) = true) :
    PE X (.Call (.Attribute o (if it then ("items" : Str) else ("values" : Str)) apos) [] [] cpos) (tViewN X.K it to) := by
  refine ⟨fun pins s σ H Q I h => ?_⟩
  cases it with
  | true =>
    refine wpAny_Call_method0_late hbase hline (thn (ho.run pins s σ H _ I h) fun u s1 ⟨x, H1, I1, rx, a, O, xs, kvs, ex, d, dv, q⟩ => ?_)
    subst ex
    obtain rfl : u = Value.ref a := rx
    obtain ⟨t1, t2⟩ := dict_type I1 d
    obtain ⟨a1, a2, a4, ys, re, o', es, ep, ho', hx, hdat, hes, his, hn⟩ := od_of I1 d dv
    refine ⟨"dict", _, PySem.F.plainAttrs_dict, PySem.F.slot_dict_items, PySem.F.type_dict_items, t1, t2, Calls.callWith_builtin rfl (PySem.evalArgs_none (DT.callItems (es := es) (ep := ep) a1 ⟨o', ho', hx, hdat⟩ ?_))⟩
    have hf : H1 s1.heap.objs.size = none := I1.hok.fresh (Nat.le_refl _)
    exact ⟨.ref s1.heap.objs.size, _, I1.laid (a := s1.heap.objs.size) (o := viewO true s1.heap.objs.size a) (t' := s1.toks) (fun b u e => Heap.get?_push_of_some _ e) (Nat.le_refl _) (L2.DX.itemsO_ok (Heap.get?_push_size _ rfl)), rfl, q _ hf⟩
  | false =>
    refine wpAny_Call_method0_late hbase hline (thn (ho.run pins s σ H _ I h) fun u s1 ⟨x, H1, I1, rx, a, O, xs, kvs, ex, d, dv, q⟩ => ?_)
    subst ex
    obtain rfl : u = Value.ref a := rx
    obtain ⟨t1, t2⟩ := dict_type I1 d
    obtain ⟨a1, a2, a4, ys, re, o', es, ep, ho', hx, hdat, hes, his, hn⟩ := od_of I1 d dv
    refine ⟨"dict", _, PySem.F.plainAttrs_dict, PySem.F.slot_dict_values, PySem.F.type_dict_values, t1, t2, Calls.callWith_builtin rfl (PySem.evalArgs_none (call_meetsIn PySem.F.slot_dict_values t1 PySem.F.entry_dict_values (PySem.F.args_dict_values_1 _) (meets_dict_values_raw a a1) ⟨⟨es, ep, o', ho', hx, hdat⟩, ?_⟩))⟩
    have hf : H1 s1.heap.objs.size = none := I1.hok.fresh (Nat.le_refl _)
    exact ⟨.ref s1.heap.objs.size, _, I1.laid (a := s1.heap.objs.size) (o := viewO false s1.heap.objs.size a) (t' := s1.toks) (fun b u e => Heap.get?_push_of_some _ e) (Nat.le_refl _) (valuesO_ok (Heap.get?_push_size _ rfl)), rfl, q _ hf⟩
theorem snd_dsort {i : Nat} {x : Str} {p p2 p3 ap cp : Pos} (it : Bool) (hu : X.A.units + 66 < cLine) (hc : X.calm = true) (hg : Gl X "sorted") (hm : X.mg "sorted" = none) (hN : X.N[i]? = some x) (hv : Vis X.env.scope x) (hd : (x == ("__debug__" : Str)) = false) (hcd : (x == ("__classdict__" : Str)) = false) (hl : (ap.endLine == cp.line) = true)
    (hbase : attributeBase (.Name x p) (if it then "items" else "values") X.env (eval (.Name x p) X.env) = eval (.Name x p) X.env) :
    SE X Γ ec W (.dsort it i) (.Call (.Name "sorted" p2) [.Call (.Attribute (.Name x p) (if it then ("items" : Str) else ("values" : Str)) ap) [] [] cp] [] p3) := by
  have hcr : CallR X (.builtin "sorted") (rSortView X.K it) := by cases it; exact cr_sortVals hc hu; exact cr_sortItems hc hu
  refine PE.conseq (pe_callB hcr hg hm PyProof.Rows.boot_sorted (pa_cons (pe_viewN it (pe_var hN hv hd hcd) hbase hl) pa_nil)) fun σ H Q h => ?_
  obtain ⟨F, O, ρ, P, E, e, w, hP, hE⟩ := h
  unfold wpE at w
  split at w
  · rename_i kvs hi
    obtain ⟨a, xs, g1, g2, g3, g4, g5⟩ := e.odAt hi
    refine ⟨.ref a, g1, a, O, xs, kvs, rfl, g4, g5, fun pp hp => ?_⟩
    have sm : Same H (upd H pp (viewO it pp a)) := same_upd hp
    have st := Stp.same e sm
    refine ⟨pp, a, O, xs, kvs, rfl, upd_same, sm _ _ g4, (e.stp st).dom, Paired.mapP g5 fun x p q => ⟨q.1, q.2.1.same sm, q.2.2.same sm⟩, w.1, ?_⟩
    exact ansF_of e st hP _ w.2
  · exact w.elim
end
end DL

set_option Elab.async false
set_option linter.all false
set_option maxRecDepth 100000
set_option maxHeartbeats 4000000
namespace DL
open PySem PySem.Spec PyProof.Rows L2

/-! ### shapes of the grammar -/
def starred : Expr → Bool
  | .Starred _ _ => true
  | _ => false
theorem star_cons {e : Expr} {es : List Expr} {env : Env} (h : starred e = false) : starEach (e :: es) env = (false, eval e env) :: starEach es env := by
  cases e <;> first | rfl | (simp [starred] at h)
theorem star_any {pos : Pos} {env : Env} : ∀ {es : List Expr}, es.all (fun e => !starred e) = true → (backTo pos (starEach es env)).any (·.1) = false
  | [], _ => rfl
  | e :: es, h => by
    rw [List.all_cons, Bool.and_eq_true] at h
    have h1 : starred e = false := by simpa using h.1
    have ih := star_any (pos := pos) (env := env) h.2
    rw [star_cons h1]
    show ((false, _) :: backTo pos (starEach es env)).any (·.1) = false
    rw [List.any_cons, ih]
    rfl
theorem assign_cons {e : Expr} {es : List Expr} {env : Env} (h : starred e = false) : assignEach (e :: es) env = (false, assign e env) :: assignEach es env := by
  cases e <;> first | rfl | (simp [starred] at h)
theorem mtE_star {Γ : Gam} {S : Sx} {a : Ex} {e : Expr} (h : mtE Γ S a e = true) : starred e = false := by
  cases e with
  | Starred v p => cases a <;> simp [mtE] at h
  | _ => rfl
def isSet : Expr → Bool
  | .Set _ _ _ => true
  | _ => false
theorem mtE_set {Γ : Gam} {S : Sx} {a : Ex} {e : Expr} (h : mtE Γ S a e = true) : isSet e = false := by
  cases e with
  | Set v k p => cases a <;> simp [mtE] at h
  | _ => rfl
theorem nomarkS {op : CmpOp} {e : Expr} (h : isSet e = false) : behindInMarks op e = false := by
  cases e <;> first | rfl | (simp [isSet] at h)
theorem foldS {e : Expr} {env : Env} (h : isSet e = false) (x : Value) : foldedSetIterable e env x = pure x := by
  cases e <;> first | rfl | (simp [isSet] at h)
def isSlice : Expr → Bool
  | .Slice _ _ _ _ => true
  | _ => false
theorem mtE_slice {Γ : Gam} {S : Sx} {a : Ex} {e : Expr} (h : mtE Γ S a e = true) : isSlice e = false := by
  cases e with
  | Slice l u s p => cases a <;> simp [mtE] at h
  | _ => rfl
theorem plainIx {e : Expr} (h : isSlice e = false) : PlainIx e := fun o i => by
  cases e <;> first | rfl | (simp [isSlice] at h)
theorem plainTe {e : Expr} {env : Env} (h : plainT e = true) : ∀ whole, isTrue e env whole = (do let v ← whole; standAt e.pos; holding [v] (truthy v)) := fun whole => by
  cases e with
  | UnaryOp op x p => cases op <;> first | rfl | exact absurd h (by simp [plainT])
  | BoolOp _ _ _ => exact absurd h (by simp [plainT])
  | IfExp _ _ _ _ => exact absurd h (by simp [plainT])
  | Compare _ _ _ _ => exact absurd h (by simp [plainT])
  | _ => rfl
theorem mtX_star {Γ : Gam} {S : Sx} : ∀ {es : Exs} {as : List Expr}, mtX Γ S es as = true → as.all (fun e => !starred e) = true ∧ as.length = lenX es
  | .nil, [], _ => ⟨rfl, rfl⟩
  | .nil, _ :: _, h => by simp [mtX] at h
  | .cons a es, [], h => by simp [mtX] at h
  | .cons a es, e :: as, h => by
    simp only [mtX, Bool.and_eq_true] at h
    obtain ⟨h1, h2⟩ := mtX_star h.2
    exact ⟨by rw [List.all_cons, h1, mtE_star h.1]; rfl, by rw [List.length_cons, h2]; rfl⟩
  | .dr i es, [], h => by simp [mtX] at h
  | .dr i es, e :: as, h => by
    simp only [mtX, Bool.and_eq_true] at h
    obtain ⟨h1, h2⟩ := mtX_star h.2
    refine ⟨?_, by rw [List.length_cons, h2]; rfl⟩
    cases e with
    | Name x p => rw [List.all_cons, h1]; rfl
    | _ => simp at h
/-- the number of the arguments -/
def lenSl (n : Nat) (P : List Sl → Prop) : List Sl → Prop := fun ss => P ss ∧ ss.length = n

/-! ### calls -/
section
variable {X : Cx} {Γ : Gam} {ec : Str → Value} {W : WX} {a b c t : Ex} {ea eb et e0 : Expr} {pos p : Pos}
theorem snd_chain {op op2 : CmpOp} (hu : X.A.units + 66 < cLine) (ha : SE X Γ ec W a ea) (hb : SE X Γ ec W b eb) (hc : SE X Γ ec W c et) (hm : lastMarks [op, op2] [eb, et] = false) : SE X Γ ec W (.chain op op2 a b c) (.Compare ea [op, op2] [eb, et] pos) := by
  refine PE.conseq (pe_chain (cmp_F (by omega) op) (cmp_F (by omega) op2) ha hb hc hm) fun σ H Q h => ?_
  obtain ⟨F, O, ρ, P, E, e, w, hP, hE⟩ := h
  unfold wpE at w
  refine ⟨F, O, ρ, _, E, e, w, fun x hx v H1 s1 r1 => ?_, hE⟩
  refine ⟨F, O, ρ, _, E, e.stp s1, hx, fun y hy u H2 s2 r2 => ?_, hE.next s1⟩
  refine ⟨F.O0, O, x, y, ((e.stp s1).stp s2).dom, r1.b.stp (e.stp s1) s2, r2.b, _, cmpF_bool hy, fun r hr w H3 sm dr fr => ?_⟩
  obtain ⟨hr, k, rfl⟩ := hr
  cases dr
  have s3 : Stp X.K F O H2 H3 := Stp.same ((e.stp s1).stp s2) sm
  have s13 := (s1.trans s2).trans s3
  refine ⟨k, rfl, ?_⟩
  cases k with
  | true =>
    rw [if_pos rfl]
    refine ⟨F, O, ρ, _, E, e.stp s13, hr, fun z hz u4 H4 s4 r4 => ?_, hE.next s13⟩
    exact ⟨F.O0, O, y, z, ((e.stp s13).stp s4).dom, r2.b.stp ((e.stp s1).stp s2) (s3.trans s4), r4.b, P, hz, ansF_of e (s13.trans s4) hP⟩
  | false =>
    rw [if_neg Bool.false_ne_true]
    exact hP _ hr _ H3 s13 (res_dr (.bl _) (.inl rfl))
theorem snt_chain {op op2 : CmpOp} (hu : X.A.units + 66 < cLine) (ha : SE X Γ ec W a ea) (hb : SE X Γ ec W b eb) (hc : SE X Γ ec W c et) (hm : lastMarks [op, op2] [eb, et] = false) : PT X (.Compare ea [op, op2] [eb, et] pos) (tT X.K Γ ec W (.chain op op2 a b c)) := by
  refine PT.conseq (pt_chain (cmp_F (by omega) op) (cmp_F (by omega) op2) ha hb hc hm) fun σ H Q h => ?_
  obtain ⟨F, O, ρ, P, E, e, w, hP, hE⟩ := h
  unfold wpE at w
  refine ⟨F, O, ρ, _, E, e, w, fun x hx v H1 s1 r1 => ?_, hE⟩
  refine ⟨F, O, ρ, _, E, e.stp s1, hx, fun y hy u H2 s2 r2 => ?_, hE.next s1⟩
  refine ⟨F.O0, O, x, y, ((e.stp s1).stp s2).dom, r1.b.stp (e.stp s1) s2, r2.b, _, cmpF_bool hy, fun r hr w H3 sm dr fr => ?_⟩
  obtain ⟨hr, k, rfl⟩ := hr
  cases dr
  have s3 : Stp X.K F O H2 H3 := Stp.same ((e.stp s1).stp s2) sm
  have s13 := (s1.trans s2).trans s3
  refine ⟨k, rfl, ?_⟩
  cases k with
  | true =>
    rw [if_pos rfl]
    refine ⟨F, O, ρ, _, E, e.stp s13, hr, fun z hz u4 H4 s4 r4 => ?_, hE.next s13⟩
    refine ⟨F.O0, O, y, z, ((e.stp s13).stp s4).dom, r2.b.stp ((e.stp s1).stp s2) (s3.trans s4), r4.b, _, cmpF_bool hz, fun r hr w H5 sm5 dr5 fr5 => ?_⟩
    obtain ⟨hr, k, rfl⟩ := hr
    cases dr5
    obtain ⟨c', hc', q'⟩ := hP _ hr
    cases hc'
    exact ⟨_, rfl, q' H5 ((s13.trans s4).trans (Stp.same ((e.stp s13).stp s4) sm5))⟩
  | false =>
    rw [if_neg Bool.false_ne_true]
    obtain ⟨c', hc', q'⟩ := hP _ hr
    cases hc'
    exact ⟨_, rfl, q' H3 s13⟩
theorem snd_callB {f : FD} {bx : Bi} {es : Exs} {eas : List Expr} {x : Str} {id : String} (hf : bx.fd = f) (hc : CallR X (.builtin id) (RCD X.K f)) (hg : Gl X x) (hm : X.mg x = none) (hv : bootBuiltins x = some (.builtin id)) (ha : SA X Γ ec W es (e0 :: eas))
    (hst : (e0 :: eas).all (fun e => !starred e) = true) (hn : x ≠ "__name__") (hdb : (x == ("__debug__" : Str)) = false) : SE X Γ ec W (.bi bx es) (.Call (.Name x p) (e0 :: eas) [] pos) := by
  have hs : starred e0 = false := by rw [List.all_cons, Bool.and_eq_true] at hst; simpa using hst.1
  have hs2 : eas.all (fun e => !starred e) = true := by rw [List.all_cons, Bool.and_eq_true] at hst; exact hst.2
  refine PE.conseq (pe_callB hc hg hm hv ha hn hdb (star_cons hs) (star_any hs2)) fun σ H Q h => ?_
  obtain ⟨F, O, ρ, P, E, e, w, hP, hE⟩ := h
  unfold wpE at w
  refine ⟨F, O, ρ, _, E, e, w, fun ss hss vs H1 s1 r1 _ => ?_, hE⟩
  obtain ⟨ds, hds, q⟩ := optQ_iff hss
  rw [hf] at q
  exact ⟨F.O0, O, ds, (e.stp s1).dom, args_bdr r1 hds, P, q, ansF_of e s1 hP⟩
theorem snd_callT {f : FD} {bx : Bi} {es : Exs} {eas : List Expr} {x : Str} {T : String} (hf : bx.fd = f) (hc : CallR X (.type T) (RCD X.K f)) (hg : Gl X x) (hm : X.mg x = none) (hv : bootBuiltins x = some (.type T)) (ha : SA X Γ ec W es (e0 :: eas))
    (hst : (e0 :: eas).all (fun e => !starred e) = true) (hn : x ≠ "__name__") (hdb : (x == ("__debug__" : Str)) = false) : SE X Γ ec W (.bi bx es) (.Call (.Name x p) (e0 :: eas) [] pos) := by
  have hs : starred e0 = false := by rw [List.all_cons, Bool.and_eq_true] at hst; simpa using hst.1
  have hs2 : eas.all (fun e => !starred e) = true := by rw [List.all_cons, Bool.and_eq_true] at hst; exact hst.2
  refine PE.conseq (pe_callTy hc hg hm hv ha hn hdb (star_cons hs) (star_any hs2)) fun σ H Q h => ?_
  obtain ⟨F, O, ρ, P, E, e, w, hP, hE⟩ := h
  unfold wpE at w
  refine ⟨F, O, ρ, _, E, e, w, fun ss hss vs H1 s1 r1 _ => ?_, hE⟩
  obtain ⟨ds, hds, q⟩ := optQ_iff hss
  rw [hf] at q
  exact ⟨F.O0, O, ds, (e.stp s1).dom, args_bdr r1 hds, P, q, ansF_of e s1 hP⟩
theorem snd_gcd {es : Exs} {eas : List Expr} {x : Str} (hg : Gl X x) (hm : X.mg x = some (.builtin "math.gcd")) (ha : SA X Γ ec W es (e0 :: eas))
    (hst : (e0 :: eas).all (fun e => !starred e) = true) (hdb : (x == ("__debug__" : Str)) = false) : SE X Γ ec W (.bi .gcd es) (.Call (.Name x p) (e0 :: eas) [] pos) := by
  have hs : starred e0 = false := by rw [List.all_cons, Bool.and_eq_true] at hst; simpa using hst.1
  have hs2 : eas.all (fun e => !starred e) = true := by rw [List.all_cons, Bool.and_eq_true] at hst; exact hst.2
  refine PE.conseq (pe_callBfun cr_dGcd hg hm ha hdb (star_cons hs) (star_any hs2)) fun σ H Q h => ?_
  obtain ⟨F, O, ρ, P, E, e, w, hP, hE⟩ := h
  unfold wpE at w
  refine ⟨F, O, ρ, _, E, e, w, fun ss hss vs H1 s1 r1 _ => ?_, hE⟩
  obtain ⟨ds, hds, q⟩ := optQ_iff hss
  exact ⟨F.O0, O, ds, (e.stp s1).dom, args_bdr r1 hds, P, q, ansF_of e s1 hP⟩
theorem pe_tyname {x : Str} {T : String} {pos : Pos} (hg : Gl X x) (hm : X.mg x = none) (hv : bootBuiltins x = some (.type T)) (hn : x ≠ "__name__") (hd : (x == ("__debug__" : Str)) = false) : PE X (.Name x pos) (L2.tC (.ty T)) := pe_bltn (v := V.ty T) hg hm hv rfl hn hd
theorem snd_isi {T : String} {y : Str} {p2 : Pos} (hT : T = "int" ∨ T = "bool" ∨ T = "str" ∨ T = "tuple" ∨ T = "list") (ha : SE X Γ ec W a ea) (hs : starred ea = false) (hg : Gl X "isinstance") (hm : X.mg "isinstance" = none) (hgy : Gl X y) (hmy : X.mg y = none)
    (hvy : bootBuiltins y = some (.type T)) (hn : y ≠ "__name__") (hd : (y == ("__debug__" : Str)) = false) : SE X Γ ec W (.isi a T) (.Call (.Name "isinstance" p) [ea, .Name y p2] [] pos) := by
  refine PE.conseq (pe_callB call_isi hg hm PyProof.Rows.boot_isinstance (pa_cons ha (pa_cons (pe_tyname hgy hmy hvy hn hd) pa_nil rfl) (star_cons hs)) (by decide) (by decide) (star_cons hs) rfl) fun σ H Q h => ?_
  obtain ⟨F, O, ρ, P, E, e, w, hP, hE⟩ := h
  unfold wpE at w
  refine ⟨F, O, ρ, _, E, e, w, fun d hd v H1 s1 r1 => ?_, hE⟩
  have nd : ∀ kvs, d ≠ .dict kvs := fun kvs q => by
    have hb := r1.b
    rw [q] at hb
    exact hb.dict
  exact ⟨v, .ty T, .type (tyOfD d), .type T, isiD T d, rfl, .ty T, r1.b.tyX, kit_ty (kit_isi T hT nd), hP _ hd _ H1 s1 (res_dr (.bl _) (.inl rfl))⟩
/-- a def of the program -/
theorem snd_call {f : Str} {es : Exs} {eas : List Expr} {k : Nat} {fa : Addr} {fd : FuncData} {ps : List Str} (tk : Takes X W) (Fo : FnOk X.prog X.w X.K X.mg X.base (L2.CX X.prog X.w) k fa fd ps (spF X.K ec (Γ.Φ f))) (hr : Room k X.A) (hg : Gl X f) (hm : X.mg f = some (.ref fa))
    (hk : PySem.W.keepIn X.K (.ref fa) = true) (hb : Binds X.K fd ps []) (ha : SA X Γ ec W es (e0 :: eas)) (hn : nbX es = true) (hst : (e0 :: eas).all (fun e => !starred e) = true) (hdb : (f == ("__debug__" : Str)) = false) :
    SE X Γ ec W (.call f es) (.Call (.Name f p) (e0 :: eas) [] pos) := by
  have hs : starred e0 = false := by rw [List.all_cons, Bool.and_eq_true] at hst; simpa using hst.1
  have hs2 : eas.all (fun e => !starred e) = true := by rw [List.all_cons, Bool.and_eq_true] at hst; exact hst.2
  refine PE.conseq (pe_callS Fo hr hg hm hk hb (fun σ => passAt tk σ) ha hdb (star_cons hs) (star_any hs2)) fun σ H Q h => ?_
  obtain ⟨F, O, ρ, P, E, e, w, hP, hE⟩ := h
  unfold wpE at w
  refine ⟨F, O, ρ, _, E, e, w, fun ss hss vs H1 s1 r1 _ => ?_, hE⟩
  have e1 := e.stp s1
  have cv : ∀ {H'}, Stp X.K ⟨O, F.dA, F.dC, H1⟩ O H1 H' → Stp X.K F O H1 H' := fun s => ⟨s.keep, s.drw⟩
  rw [hn] at r1
  refine ⟨O, F.dA, F.dC, ss, P, E, e1.dom, fun a ha => ⟨e1.sub a (e1.drw a ha).1, (e1.drw a ha).2⟩, Paired.mapP r1 fun v sl q => ?_, hss, fun d hd v H' s' dr => hP d hd v H' (s1.trans (cv s')) (res_dr dr (.inl rfl)), fun x hx H' s' => hE x hx H' (s1.trans (cv s'))⟩
  cases sl with
  | fz d => exact q.2 rfl
  | dr => exact q
  | ow d => exact q.elim
  | od d => exact q.elim
  | lk _ _ _ => exact q.elim
end

/-! ### targets -/
/-- only the slots vs may differ -/
structure Only (vs : List Nat) (σ σ' : L2.St) : Prop where
  len : σ'.length = σ.length
  at_ : ∀ j, j ∉ vs → σ'[j]? = σ[j]?
theorem Only.refl (vs : List Nat) (σ : L2.St) : Only vs σ σ := ⟨rfl, fun _ _ => rfl⟩
def tG (K : PySem.W.Frag) (tg : Tg) : TG := fun v σ H Q => ∃ F O ρ d P, EnvR K F O H σ ρ ∧ Dr K O H v d ∧ bindT tg d ρ P ∧ ∀ ρ', P ρ' → ∀ σ', Only (slotsT tg) σ σ' → EnvR K F O H σ' ρ' → Q σ' H
def tGs (K : PySem.W.Frag) (ts : Tgs) : TGs := fun vs σ H Q => ∃ F O ρ ds P, EnvR K F O H σ ρ ∧ DrA K O H vs ds ∧ bindTs ts ds ρ P ∧ ∀ ρ', P ρ' → ∀ σ', Only (slotsTs ts) σ σ' → EnvR K F O H σ' ρ' → Q σ' H
theorem PG.conseq {X : Cx} {e : Expr} {t t' : TG} (h : PG X e t) (i : ∀ v σ H Q, t' v σ H Q → t v σ H Q) : PG X e t' := ⟨fun pins s σ H v u Q I r w => h.run pins s σ H v u Q I r (i v σ H Q w)⟩
theorem PGs.conseq {X : Cx} {e : List Expr} {t t' : TGs} (h : PGs X e t) (i : ∀ v σ H Q, t' v σ H Q → t v σ H Q) : PGs X e t' := ⟨fun pins s σ H v u Q I r w => h.run pins s σ H v u Q I r (i v σ H Q w)⟩
theorem locB_of {S : Sx} {x : Str} (h : locB S x = true) : Loc S.sc x ∧ (S.fn x = true ∨ S.sc.names.lookup x = some .local) := by
  unfold locB at h
  split at h
  · rename_i q; exact ⟨.inl q, .inr q⟩
  · rename_i q; exact ⟨.inr q, .inl h⟩
  · cases h
theorem mtT_star {S : Sx} {t : Tg} {e : Expr} (h : mtT S t e = true) : starred e = false := by
  cases e with
  | Starred v p => cases t <;> simp [mtT] at h
  | _ => rfl
theorem mtTs_assign {S : Sx} {env : Env} : ∀ {ts : Tgs} {es : List Expr}, mtTs S ts es = true → (assignEach es env).length = tgsLen ts ∧ (assignEach es env).findIdx? (·.1) = none
  | .nil, [], _ => ⟨rfl, rfl⟩
  | .nil, _ :: _, h => by simp [mtTs] at h
  | .cons t ts, [], h => by simp [mtTs] at h
  | .cons t ts, e :: es, h => by
    simp only [mtTs, Bool.and_eq_true] at h
    obtain ⟨h1, h2⟩ := mtTs_assign (env := env) h.2
    rw [assign_cons (mtT_star h.1)]
    refine ⟨by rw [List.length_cons, h1]; rfl, ?_⟩
    rw [List.findIdx?_cons]
    simp [h2]
mutual
theorem sndT {X : Cx} {S : Sx} (hN : X.N = S.N) (hsc : X.env.scope = S.sc) (hfn : X.fn = S.fn) (hc : X.calm = true) (nd : X.N.Nodup) : ∀ (t : Tg) (e : Expr), mtT S t e = true → PG X e (tG X.K t)
  | .n i, e, h => by
    cases e with
    | Name x p =>
      simp only [mtT, Bool.and_eq_true, decide_eq_true_eq] at h
      obtain ⟨h1, h2⟩ := locB_of h.2
      rw [← hsc] at h1 h2
      rw [← hfn] at h2
      refine PG.conseq (pg_name nd (by rw [hN]; exact h.1) h1 h2) fun v σ H Q q => ?_
      obtain ⟨F, O, ρ, d, P, env, hd, w, hP⟩ := q
      unfold bindT at w
      exact hP _ w _ ⟨List.length_set .., fun j hj => by
        simp only [slotsT, List.mem_singleton] at hj
        exact List.getElem?_set_ne (Ne.symm hj)⟩ (env.set hd)
    | _ => simp [mtT] at h
  | .t ts, e, h => by
    cases e with
    | Tuple es k p =>
      simp only [mtT] at h
      obtain ⟨h1, h2⟩ := mtTs_assign (env := X.env) h
      refine PG.conseq (pg_tup hc (sndTs hN hsc hfn hc nd ts es h) h1 h2) fun v σ H Q q => ?_
      obtain ⟨F, O, ρ, d, P, env, hd, w, hP⟩ := q
      unfold bindT at w
      split at w
      · obtain ⟨w1, w2⟩ := w
        cases hd with
        | tup hs hA =>
          refine ⟨_, _, rfl, hs.sq, by rw [hA.length]; exact w1, F, O, ρ, _, P, env, hA, w2, fun ρ' hp σ' on env' => ?_⟩
          exact hP ρ' hp σ' ⟨on.len, fun j hj => on.at_ j (by simpa [slotsT] using hj)⟩ env'
      · exact w.elim
    | _ => simp [mtT] at h
theorem sndTs {X : Cx} {S : Sx} (hN : X.N = S.N) (hsc : X.env.scope = S.sc) (hfn : X.fn = S.fn) (hc : X.calm = true) (nd : X.N.Nodup) : ∀ (ts : Tgs) (es : List Expr), mtTs S ts es = true → PGs X es (tGs X.K ts)
  | .nil, [], _ => PGs.conseq pgs_nil fun vs σ H Q q => by
    obtain ⟨F, O, ρ, ds, P, env, hd, w, hP⟩ := q
    unfold bindTs at w
    obtain ⟨rfl, w⟩ := w
    cases hd
    exact ⟨rfl, hP _ w σ (Only.refl _ σ) env⟩
  | .nil, _ :: _, h => by simp [mtTs] at h
  | .cons t ts, [], h => by simp [mtTs] at h
  | .cons t ts, e :: es, h => by
    simp only [mtTs, Bool.and_eq_true] at h
    have hs := mtT_star h.1
    refine PGs.conseq (pgs_cons (sndT hN hsc hfn hc nd t e h.1) (sndTs hN hsc hfn hc nd ts es h.2) (by rw [assign_cons hs]; rfl)) fun vs σ H Q q => ?_
    obtain ⟨F, O, ρ, ds, P, env, hd, w, hP⟩ := q
    unfold bindTs at w
    split at w
    · cases hd with
      | cons h1 h2 =>
        refine ⟨_, _, rfl, F, O, ρ, _, _, env, h1, w, fun ρ' hp σ' on env' => ?_⟩
        refine ⟨F, O, ρ', _, P, env', h2, hp, fun ρ2 hp2 σ2 on2 env2 => hP ρ2 hp2 σ2 ⟨on2.len.trans on.len, fun j hj => ?_⟩ env2⟩
        simp only [slotsTs, List.mem_append, not_or] at hj
        exact (on2.at_ j hj.2).trans (on.at_ j hj.1)
    · exact w.elim
end
end DL

set_option Elab.async false
set_option linter.all false
set_option maxRecDepth 100000
set_option maxHeartbeats 4000000
namespace DL
open PySem PySem.Spec PyProof.Rows L2
/-! ### enumerate of a tuple -/
def ItEt (K : PySem.W.Frag) (a : Addr) : It :=
  ⟨fun i H => ∃ (xs : List V) (x : V), SqT K H a xs ∧ xs[i]? = some x, fun i H v H' => ∃ T x, v = .ref T ∧ H T = none ∧ H' = upd H T (.tup [.int (i : Nat), x]) ∧ ∀ xs, SqT K H a xs → xs[i]? = some x, fun i H => ∃ xs : List V, SqT K H a xs ∧ xs.length ≤ i⟩
theorem enum_endT {prog : Program} {w : World} {A : Around} {E : Value → Shared → Prop} {s : Shared} {e it t : Addr} {i : Nat} {k : Int} {items : Array Value} {old : Value} {Q : Option Value → Shared → Prop} (hh : A.handled = none)
    (he : IsEnum s.heap e it k old) (hit : s.heap.IsTupleIter it t i) (hl : s.heap.IsTuple t items) (hx : items[i]? = none) (hQ : ∀ h', Heap.ExtBut it s.heap h' → Q none { s with heap := h' }) :
    wpAny (model prog w) A (pyNext (.ref e)) Q E s := by
  have ty : s.TypeIs (.ref e) "enumerate" := ⟨_, he, rfl⟩
  unfold pyNext
  refine wpAny_bind (wpAny_attempt (wpAny_callSpecial?_slot (name := Str.ofString "__next__") ty F.slot_enumerate_next (wpAny_call_entry F.slot_enumerate_next ty F.entry_enumerate_next ?_ (F.args_enumerate_next_1 _))))
  show wpAny _ _ (field (.ref e) 2 >>= _) _ _ _
  refine wpAny_bind (wpAny_field he rfl (x := .ref it) rfl (wpAny_bind (wpAny_nextOf_tuple_end hh hit hl hx fun h' x up hc => ?_)))
  obtain ⟨o, ho, hc⟩ := hc
  exact wpAny_bind (wpAny_isInstance (T := "StopIteration") (b := true) ⟨o, ho, hc⟩ isSubtype_stop (wpAny_pure (hQ _ up)))
theorem turn_enumT {P : Program} {w : World} {K : PySem.W.Frag} {elts : List Expr} {kk : Nat} {tpos : Pos} (a e it : Addr) (hai : a ≠ it) (hea : e ≠ a) :
    Turn P w K (.Tuple elts kk tpos) (ItEt K a) [e, it] e (fun i h => (∃ old, IsEnum h e it ((i : Nat) : Int) old) ∧ h.IsTupleIter it a i ∧ e ≠ it) where
  mem := by simp
  obj := fun i h st b hb => by
    obtain ⟨⟨old, he⟩, ⟨o, ho, hc, hd⟩, _⟩ := st
    rcases (show b = e ∨ b = it by simpa using hb) with z | z
    · rw [z]; exact ⟨_, he, fun v q => nomatch q⟩
    · rw [z]; exact ⟨o, ho, fun v q => by rw [hd] at q; cases q⟩
  keep := fun i h h' st k => let ⟨⟨old, he⟩, hi, hne⟩ := st; ⟨⟨old, k e (by simp) _ he⟩, hi.at fun o q => k it (by simp) o q, hne⟩
  item := by
    intro X hP hw hK hc i pins s σ H E I hf st hg
    subst hP hw hK
    obtain ⟨⟨old, he⟩, hit, hne⟩ := st
    obtain ⟨xs, x, hq, hx⟩ := hg
    obtain ⟨its, rv, p, hz⟩ := I.tuple hq
    obtain ⟨u, hu, ru⟩ := rv.get hx
    have le : e < s.heap.objs.size := Heap.lt_size he
    have li : it < s.heap.objs.size := by obtain ⟨_, q, _⟩ := hit; exact Heap.lt_size q
    have Dt := Draws.tuple (prog := X.prog) (w := X.w) (A := X.A.in1) (I.ok.hd hc) it a hai its.toArray
    have hlt : i < its.toArray.size := by
      have := (List.getElem?_eq_some_iff.mp hu).1
      simpa using this
    refine wpAny_pyNext_enum_itemD Dt he ⟨hit, p⟩ hlt hne (by simp [hne, hea]) fun x' h' tk hx' ho hst hT hsz hk => ?_
    have ex : x' = u := by
      have : its[i]? = some x' := by simpa using hx'
      rw [hu] at this
      exact (Option.some.inj this).symm
    subst ex
    refine ⟨_, rfl, wpAny_letOwnedTupleGo_enum (s := { s with heap := h', toks := tk + 1 }) ho fun h'' he' sb => ?_⟩
    have hT2 : h''.get? s.heap.objs.size = some { cls := .type "tuple", data := .seq #[.int i tk, x'] } := (sb.2 _ (Nat.ne_of_gt le)).trans hT
    have new : ObjOk X.prog X.w (upd H s.heap.objs.size (.tup [.int (i : Nat), x])) h'' s.heap.objs.size (.tup [.int (i : Nat), x]) :=
      ⟨by show 2 ≤ sizeLine; decide, [.int i tk, x'], .cons ⟨_, rfl⟩ (.cons ru .nil), ⟨_, hT2, rfl, _, rfl⟩⟩
    have I1 : Inv X pins σ (upd H s.heap.objs.size (.tup [.int (i : Nat), x])) { s with heap := h'', toks := tk + 1 } :=
      I.turnedNew (ch := [e, it]) (fun b ob hb q => (sb.2 b (fun z => hb (by simp [z]))).trans (hk b ob (fun z => hb (by simp [z])) (fun z => hb (by simp [z])) q)) hf (Nat.le_refl _) new
    refine ⟨.ref s.heap.objs.size, _, I1, rfl, ⟨_, x, rfl, I.hok.fresh (Nat.le_refl _), rfl, fun ys hy => by rw [I.tuple_inj hy hq]; exact hx⟩, ⟨⟨x', ?_⟩, hst.1.at fun o q => (sb.2 it (Ne.symm hne)).trans q, hne⟩, fun b hb => ?_⟩
    · rw [show ((i + 1 : Nat) : Int) = (i : Int) + 1 by omega]; exact he'
    · have hb' : b < s.heap.objs.size := by
        rcases (show b = e ∨ b = it by simpa using hb) with z | z
        · rw [z]; exact le
        · rw [z]; exact li
      rw [upd_ne (Nat.ne_of_lt hb')]
      exact (hf b hb).1
  done := by
    intro X hP hw hK hc i pins s σ H E I hf st hg
    subst hP hw hK
    obtain ⟨⟨old, he⟩, hit, hne⟩ := st
    obtain ⟨xs, hq, hx⟩ := hg
    obtain ⟨its, rv, p, hz⟩ := I.tuple hq
    obtain ⟨f0, f1, f2, f3, f4, f5⟩ := hf it (by simp)
    have hl := rv.length
    exact enum_endT (I.ok.hd hc) he hit p (by simp; omega) fun h' eb => ⟨rfl, I.turned (t' := s.toks) (fun b o hb q => eb b o hb q) f0 f1 f3 f4 f5⟩
  self := fun A i s Q E st h => let ⟨⟨_, he⟩, _⟩ := st; wpAny_pyIter_enum he h
set_option maxHeartbeats 1000000 in
theorem meets_enum1 {v : Value} {o : Obj} {H : Heap → Prop} (B : Begins v o H) :
    Meets (Builtin.«enumerate.__new__» ⟨[.type "enumerate", v], []⟩) (fun _ R s => H s.heap ∧
      R (.ok (.ret (.ref (s.heap.push o).objs.size))) { s with heap := (s.heap.push o).push { cls := .type "enumerate", data := .fields #[.none, .bool false, .ref s.heap.objs.size, rawInt 0, .none, .none] } }) :=
  .of_wp fun prog w A R s h => by
    obtain ⟨hp, g, d, tk, os⟩ := s; obtain ⟨h1, h⟩ := h
    have hsub := sub_enumerate
    have q1 : ∀ {A' : Around} {E : Value → Shared → Prop} {Q : Value → Shared → Prop}, Q (.ref hp.objs.size) ⟨hp.push o, g, d, tk, os⟩ → wpAny (model prog w) A' (pyIter v) Q E ⟨hp, g, d, tk, os⟩ := fun q => B.iter prog w _ _ ⟨hp, g, d, tk, os⟩ _ h1 q
    wp_walk using q1
    refine wpAny_stack_any fun st => wpAny_pure ?_
    split
    · rename_i c _ _ _ _ _
      cases (c == Value.type "enumerate") <;> (wp_walk using q1; exact ⟨_, rfl, h⟩)
    · wp_walk using q1
      exact ⟨_, rfl, h⟩
theorem call_enum1 {prog : Program} {w : World} {A : Around} {E : Value → Shared → Prop} {s : Shared} {v : Value} {o : Obj} {H : Heap → Prop} {Q : Value → Shared → Prop} (B : Begins v o H) (h1 : H s.heap)
    (h : ∀ h', IsEnum h' (s.heap.objs.size + 1) s.heap.objs.size 0 .none → h'.get? s.heap.objs.size = some o → (∀ b o, s.heap.get? b = some o → h'.get? b = some o) → Q (.ref (s.heap.objs.size + 1)) { s with heap := h' }) :
    wpAny (model prog w) A (call (.type "enumerate") [v]) Q E s := by
  refine callType_new F.called_enumerate (by decide) (F.typeCall_enumerate_1 _) (F.newCall_enumerate_1 _) (fun obj => F.args_object_init_2 obj _) F.entry_enumerate_new (meets_enum1 B) ⟨h1, ?_⟩
  have hz : (s.heap.push o).objs.size = s.heap.objs.size + 1 := Heap.size_push ..
  show _ ∧ _
  rw [hz]
  have he : IsEnum ((s.heap.push o).push { cls := .type "enumerate", data := .fields #[.none, .bool false, .ref s.heap.objs.size, rawInt 0, .none, .none] }) (s.heap.objs.size + 1) s.heap.objs.size 0 .none := by
    have g := Heap.get?_push_size (s.heap.push o) (o := { cls := .type "enumerate", data := .fields #[.none, .bool false, .ref s.heap.objs.size, rawInt 0, .none, .none] }) rfl
    rw [hz] at g
    exact g
  exact ⟨⟨_, he, rfl⟩, h _ he (Heap.get?_push_of_some _ (Heap.get?_push_size _ B.free)) fun b o x => Heap.get?_push_of_some _ (Heap.get?_push_of_some _ x)⟩
/-- a list or a tuple -/
def iEnumB (K : PySem.W.Frag) (ta : TA) : TI := fun σ H R => ta σ H fun vs H1 => ∃ a xs, vs = [.ref a] ∧ ((SqL K H1 a xs ∧ R (Ite K a) H1) ∨ (SqT K H1 a xs ∧ R (ItEt K a) H1))
theorem pi_enumB {X : Cx} {e : Expr} {ta : TA} {p pos tpos : Pos} {elts : List Expr} {kk : Nat} (hg : Gl X "enumerate") (hm : X.mg "enumerate" = none) (ha : PA X [e] ta) (hs : starEach [e] X.env = [(false, eval e X.env)]) :
    PI X (.Tuple elts kk tpos) (.Call (.Name "enumerate" p) [e] [] pos) (iEnumB X.K ta) := by
  refine ⟨fun pins s σ H R I h => ?_⟩
  refine Call_ (ld_blt I hg hm boot_enumerate (PyProof.Rows.callWith_type1 (thn (ha.run pos pins s σ H _ I h) fun us s1 w1 => ?_) hs rfl))
  obtain ⟨vs, H1, I1, r1, a, xs, rfl, hq⟩ := w1
  cases r1 with
  | cons r rr =>
    cases rr
    cases r
    have far : ∀ b, b = s1.heap.objs.size + 1 ∨ b = s1.heap.objs.size → FpOk X pins H1 b := fun b hb => by
      have hle : s1.heap.objs.size ≤ b := by
        rcases hb with z | z
        · rw [z]; exact Nat.le_add_right _ _
        · rw [z]; exact Nat.le_refl _
      exact I1.fpOk hle (I1.hok.fresh hle)
    rcases hq with ⟨hq, q⟩ | ⟨hq, q⟩
    · obtain ⟨its, rv, p', hz⟩ := I1.list hq
      refine call_enumerate_list p'.isList fun h' he hit hsz hk => wpAny_pyIter_enum he ?_
      have I2 : Inv X pins σ H1 { s1 with heap := h' } := I1.kept (t' := s1.toks) hk
      exact ⟨s1.heap.objs.size + 1, [s1.heap.objs.size + 1, s1.heap.objs.size], _, _, H1, rfl, I2, turn_enum a (s1.heap.objs.size + 1) s1.heap.objs.size, ⟨⟨.none, he⟩, hit, Nat.succ_ne_self _⟩, fun b hb => far b (by simpa using hb), q⟩
    · obtain ⟨its, rv, p', hz⟩ := I1.tuple hq
      refine call_enum1 (begins_tuple a its.toArray) p' fun h' he hit hk => wpAny_pyIter_enum he ?_
      have I2 : Inv X pins σ H1 { s1 with heap := h' } := I1.kept (t' := s1.toks) hk
      have la : a < s1.heap.objs.size := by obtain ⟨o, ho, _⟩ := p'; exact Heap.lt_size ho
      exact ⟨s1.heap.objs.size + 1, [s1.heap.objs.size + 1, s1.heap.objs.size], _, _, H1, rfl, I2, turn_enumT a (s1.heap.objs.size + 1) s1.heap.objs.size (Nat.ne_of_lt la) (fun z => absurd la (by rw [← z]; exact Nat.not_lt.mpr (Nat.le_succ _))), ⟨⟨.none, he⟩, ⟨_, hit, rfl, rfl⟩, Nat.succ_ne_self _⟩, fun b hb => far b (by simpa using hb), q⟩
end DL

set_option Elab.async false
set_option linter.all false
set_option maxRecDepth 100000
set_option maxHeartbeats 4000000
namespace DL
open PySem PySem.Spec PyProof.Rows L2
/-! ### zip of lists and tuples, mixed -/
def ItB (c : Bool) (h : Heap) (it a : Addr) (i : Nat) : Prop := match c with
  | true => h.IsListIter it a i
  | false => h.IsTupleIter it a i
def IsB (c : Bool) (h : Heap) (a : Addr) (items : Array Value) : Prop := match c with
  | true => h.IsList a items
  | false => h.IsTuple a items
def SqB (c : Bool) (K : PySem.W.Frag) (H : Hp) (a : Addr) (xs : List V) : Prop := match c with
  | true => SqL K H a xs
  | false => SqT K H a xs
section
variable {prog : Program} {w : World} {A : Around} {c : Bool} {it a : Addr} {items : Array Value} {i : Nat}
theorem dr_std (hh : A.handled = none) (hne : a ≠ it) (items : Array Value) : Draws prog w A it [it, a] items.size (fun i v => items[i]? = some v) (fun i h => ItB c h it a i ∧ IsB c h a items) := by
  cases c with
  | true => exact Draws.list hh it a hne items
  | false => exact Draws.tuple hh it a hne items
theorem ItB.obj {h : Heap} (x : ItB c h it a i) : ∃ o, h.get? it = some o ∧ ∀ v, o.data ≠ .cell v := by
  cases c with
  | true => obtain ⟨o, e, _, d⟩ := x; exact ⟨o, e, fun v q => by rw [d] at q; cases q⟩
  | false => obtain ⟨o, e, _, d⟩ := x; exact ⟨o, e, fun v q => by rw [d] at q; cases q⟩
theorem ItB.lt {h : Heap} (x : ItB c h it a i) : it < h.objs.size := by
  obtain ⟨o, e, _⟩ := x.obj
  exact Heap.lt_size e
theorem ItB.at_ {h h' : Heap} (x : ItB c h it a i) (k : ∀ o, h.get? it = some o → h'.get? it = some o) : ItB c h' it a i := by
  cases c with
  | true => exact Heap.IsListIter.at x k
  | false => exact Heap.IsTupleIter.at x k
theorem IsB.at_ {h h' : Heap} (x : IsB c h a items) (k : ∀ o, h.get? a = some o → h'.get? a = some o) : IsB c h' a items := by
  cases c with
  | true => exact Heap.IsList.at x k
  | false => exact Heap.IsTuple.at x k
theorem dr_end (hh : A.handled = none) (hx : items[i]? = none) : Draws prog w A it [it, a] i (fun _ _ => True) (fun j h => j = i ∧ ItB c h it a i ∧ IsB c h a items) where
  live := fun _ h st => let ⟨o, e, _⟩ := st.2.1.obj; ⟨o, e⟩
  frame := fun j h h' st k => ⟨st.1, st.2.1.at_ fun o e => k it (by simp) o e, st.2.2.at_ fun o e => k a (by simp) o e⟩
  item := fun j s Q E hj st _ => absurd st.1 (by omega)
  done := fun s Q E st hE => by
    obtain ⟨_, st1, st2⟩ := st
    cases c with
    | true => exact wpAny_nextOf_list_end hh st1 st2 hx hE
    | false => exact wpAny_nextOf_tuple_end hh st1 st2 hx hE
end
theorem inv_B {X : Cx} {pins : List (Addr × Obj)} {σ : L2.St} {H : Hp} {s : Shared} {c : Bool} {a : Addr} {xs : List V} (I : Inv X pins σ H s) (h : SqB c X.K H a xs) : ∃ its : List Value, Vals xs its ∧ IsB c s.heap a its.toArray ∧ a < s.heap.objs.size := by
  cases c with
  | true =>
    obtain ⟨its, rv, p, _⟩ := I.list h
    exact ⟨its, rv, p.isList, p.lt⟩
  | false =>
    obtain ⟨its, rv, p, _⟩ := I.tuple h
    exact ⟨its, rv, p, by obtain ⟨o, e, _⟩ := p; exact Heap.lt_size e⟩
theorem inj_B {X : Cx} {pins : List (Addr × Obj)} {σ : L2.St} {H : Hp} {s : Shared} {c : Bool} {a : Addr} {xs ys : List V} (I : Inv X pins σ H s) (h : SqB c X.K H a xs) (k : SqB c X.K H a ys) : xs = ys := by
  cases c with
  | true => exact I.list_inj h k
  | false => exact I.tuple_inj h k
def ItzB (K : PySem.W.Frag) (c d : Bool) (a b : Addr) : It :=
  ⟨fun i H => ∃ (xs ys : List V) (x y : V), SqB c K H a xs ∧ SqB d K H b ys ∧ xs[i]? = some x ∧ ys[i]? = some y,
    fun i H v H' => ∃ T x y, v = .ref T ∧ H T = none ∧ H' = upd H T (.tup [x, y]) ∧ (∀ xs, SqB c K H a xs → xs[i]? = some x) ∧ ∀ ys, SqB d K H b ys → ys[i]? = some y,
    fun i H => ∃ xs ys : List V, SqB c K H a xs ∧ SqB d K H b ys ∧ (xs.length ≤ i ∨ ys.length ≤ i)⟩
structure Apart2 (z TI TO i1 i2 a b : Addr) : Prop where
  s : ZipSep2 z TI TO i1 i2 [i1, a] [i2, b]
  a1 : a ≠ i1
  b2 : b ≠ i2
theorem turn_zipB {P : Program} {w : World} {K : PySem.W.Frag} {elts : List Expr} {kk : Nat} {tpos : Pos} {c d : Bool} {a b z TI TO i1 i2 : Addr} (D : Apart2 z TI TO i1 i2 a b) :
    Turn P w K (.Tuple elts kk tpos) (ItzB K c d a b) [z, TI, TO, i1, i2] z (fun i h => IsZip h z TI TO .none ∧ IsTupOf2 h TI (.ref i1) (.ref i2) ∧ (∃ x y, IsTupOf2 h TO x y) ∧ ItB c h i1 a i ∧ ItB d h i2 b i) where
  mem := by simp
  obj := fun i h st q hq => by
    obtain ⟨hz, hTI, ⟨x, y, hTO⟩, h1, h2⟩ := st
    rcases (show q = z ∨ q = TI ∨ q = TO ∨ q = i1 ∨ q = i2 by simpa using hq) with e | e | e | e | e
    · rw [e]; exact ⟨_, hz, fun v q => nomatch q⟩
    · rw [e]; exact ⟨_, hTI, fun v q => nomatch q⟩
    · rw [e]; exact ⟨_, hTO, fun v q => nomatch q⟩
    · rw [e]; exact h1.obj
    · rw [e]; exact h2.obj
  keep := fun i h h' st k => by
    obtain ⟨hz, hTI, ⟨x, y, hTO⟩, h1, h2⟩ := st
    exact ⟨k z (by simp) _ hz, k TI (by simp) _ hTI, ⟨x, y, k TO (by simp) _ hTO⟩, h1.at_ fun o q => k i1 (by simp) o q, h2.at_ fun o q => k i2 (by simp) o q⟩
  item := by
    intro X hP hw hK hc i pins s σ H E I hf st hg
    subst hP hw hK
    obtain ⟨hz, hTI, ⟨x0, y0, hTO⟩, h1, h2⟩ := st
    obtain ⟨xs, ys, x, y, hqx, hqy, hx, hy⟩ := hg
    obtain ⟨its, rv, p, _⟩ := inv_B I hqx
    obtain ⟨its2, rv2, p2, _⟩ := inv_B I hqy
    obtain ⟨u, hu, ru⟩ := rv.get hx
    obtain ⟨u2, hu2, ru2⟩ := rv2.get hy
    have hzl : z < s.heap.objs.size := Heap.lt_size hz
    have l1 : i < its.toArray.size := by have := (List.getElem?_eq_some_iff.mp hu).1; simpa using this
    have l2 : i < its2.toArray.size := by have := (List.getElem?_eq_some_iff.mp hu2).1; simpa using this
    refine wpAny_pyNext_zipD2_item D.s (dr_std (c := c) (A := X.A.in1) (I.ok.hd hc) D.a1 its.toArray) (dr_std (c := d) (A := X.A.in1) (I.ok.hd hc) D.b2 its2.toArray) hz hTI hTO ⟨h1, p⟩ ⟨h2, p2⟩ l1 l2 fun v1 v2 h' tk e1 e2 z' TO' st1 st2 hT hsz hk => ?_
    have ev1 : v1 = u := by
      have q : its[i]? = some v1 := by simpa using e1
      rw [hu] at q; exact (Option.some.inj q).symm
    have ev2 : v2 = u2 := by
      have q : its2[i]? = some v2 := by simpa using e2
      rw [hu2] at q; exact (Option.some.inj q).symm
    subst ev1 ev2
    refine ⟨_, rfl, wpAny_letOwnedTupleGo_zip (s := { s with heap := h', toks := tk }) z' fun h'' z'' sb => ?_⟩
    have hT2 : IsTupOf2 h'' s.heap.objs.size v1 v2 := (sb.2 _ (Nat.ne_of_gt hzl)).trans hT
    have new : ObjOk X.prog X.w (upd H s.heap.objs.size (.tup [x, y])) h'' s.heap.objs.size (.tup [x, y]) := ⟨by show 2 ≤ sizeLine; decide, [v1, v2], .cons ru (.cons ru2 .nil), ⟨_, hT2, rfl, _, rfl⟩⟩
    have I1 : Inv X pins σ (upd H s.heap.objs.size (.tup [x, y])) { s with heap := h'', toks := tk } :=
      I.turnedNew (t' := tk) (ch := [z, TI, TO, i1, i2]) (fun q o hb e => (sb.2 q (fun q' => hb (by simp [q']))).trans (hk q o (fun q' => hb (by simp [q'])) (fun q' => hb (by simp [q'])) (fun q' => hb (by simp [q'])) (fun q' => hb (by simp [q'])) e)) hf (Nat.le_refl _) new
    refine ⟨.ref s.heap.objs.size, _, I1, rfl, ⟨_, x, y, rfl, I.hok.fresh (Nat.le_refl _), rfl, fun l hl => by rw [inj_B I hl hqx]; exact hx, fun l hl => by rw [inj_B I hl hqy]; exact hy⟩, ⟨z'', ?_, ⟨v1, v2, ?_⟩, ?_, ?_⟩, fun q hq => ?_⟩
    · exact (sb.2 _ D.s.TIz).trans (hk _ _ D.s.TIz D.s.TITO D.s.TIi1 D.s.TIi2 hTI)
    · exact (sb.2 _ D.s.TOz).trans TO'
    · exact st1.1.at_ fun o q => (sb.2 _ (fun e => D.s.zi1 e.symm)).trans q
    · exact st2.1.at_ fun o q => (sb.2 _ (fun e => D.s.zi2 e.symm)).trans q
    · have hlt : q < s.heap.objs.size := by
        rcases (show q = z ∨ q = TI ∨ q = TO ∨ q = i1 ∨ q = i2 by simpa using hq) with e | e | e | e | e
        · rw [e]; exact hzl
        · rw [e]; exact Heap.lt_size hTI
        · rw [e]; exact Heap.lt_size hTO
        · rw [e]; exact h1.lt
        · rw [e]; exact h2.lt
      rw [upd_ne (Nat.ne_of_lt hlt)]
      exact (hf q hq).1
  done := by
    intro X hP hw hK hc i pins s σ H E I hf st hg
    subst hP hw hK
    obtain ⟨hz, hTI, ⟨x0, y0, hTO⟩, h1, h2⟩ := st
    obtain ⟨xs, ys, hqx, hqy, hend⟩ := hg
    obtain ⟨its, rv, p, _⟩ := inv_B I hqx
    obtain ⟨its2, rv2, p2, _⟩ := inv_B I hqy
    have e1 := rv.length
    have e2 := rv2.length
    have fin : ∀ h' tk, (∀ q o, q ≠ z → q ≠ TO → q ≠ i1 → q ≠ i2 → s.heap.get? q = some o → h'.get? q = some o) → (none : Option Value) = none ∧ Inv X pins σ H { s with heap := h', toks := tk } := fun h' tk hk => ⟨rfl, I.turnedL (t' := tk) (ch := [z, TI, TO, i1, i2]) (fun q o hb e =>
      hk q o (fun q' => hb (by simp [q'])) (fun q' => hb (by simp [q'])) (fun q' => hb (by simp [q'])) (fun q' => hb (by simp [q'])) e) hf⟩
    have hh : X.A.in1.handled = none := I.ok.hd hc
    by_cases c1 : xs.length ≤ i
    · have n1 : its.toArray[i]? = none := by simp; omega
      by_cases c2 : ys.length ≤ i
      · have n2 : its2.toArray[i]? = none := by simp; omega
        exact wpAny_pyNext_zipD2_end D.s (dr_end (c := c) hh n1) (dr_end (c := d) hh n2) hz hTI hTO ⟨rfl, h1, p⟩ ⟨rfl, h2, p2⟩ (Nat.le_refl _) (Nat.le_refl _) (.inl rfl) fin
      · exact wpAny_pyNext_zipD2_end D.s (dr_end (c := c) hh n1) (dr_std (c := d) hh D.b2 its2.toArray) hz hTI hTO ⟨rfl, h1, p⟩ ⟨h2, p2⟩ (Nat.le_refl _) (by simp; omega) (.inl rfl) fin
    · have c2 : ys.length ≤ i := hend.resolve_left c1
      have n2 : its2.toArray[i]? = none := by simp; omega
      exact wpAny_pyNext_zipD2_end D.s (dr_std (c := c) hh D.a1 its.toArray) (dr_end (c := d) hh n2) hz hTI hTO ⟨h1, p⟩ ⟨rfl, h2, p2⟩ (by simp; omega) (Nat.le_refl _) (.inr rfl) fin
  self := fun A i s Q E st h => wpAny_pyIter_zip st.1 h
def itObj (c : Bool) (a : Addr) : Obj := match c with
  | true => { cls := .type "list_iterator", data := .fields #[.ref a, .int 0 0] }
  | false => { cls := .type "tuple_iterator", data := .fields #[.ref a, .int 0 0] }
theorem begins_B (c : Bool) (a : Addr) (items : Array Value) : Begins (.ref a) (itObj c a) fun h => IsB c h a items := by
  cases c with
  | true => exact begins_list a items
  | false => exact begins_tuple a items
theorem itB_new {c : Bool} {h : Heap} {it a : Addr} (e : h.get? it = some (itObj c a)) : ItB c h it a 0 := by
  cases c with
  | true => exact ⟨_, e, rfl, rfl⟩
  | false => exact ⟨_, e, rfl, rfl⟩
def iZipB (K : PySem.W.Frag) (ta : TA) : TI := fun σ H R => ta σ H fun vs H1 => ∃ (a b : Addr) (xs ys : List V) (c d : Bool), vs = [.ref a, .ref b] ∧ SqB c K H1 a xs ∧ SqB d K H1 b ys ∧ R (ItzB K c d a b) H1
theorem pi_zipB {X : Cx} {e e2 : Expr} {ta : TA} {p pos tpos : Pos} {elts : List Expr} {kk : Nat} (hg : Gl X "zip") (hm : X.mg "zip" = none) (ha : PA X [e, e2] ta)
    (hs : starEach [e, e2] X.env = (false, eval e X.env) :: starEach [e2] X.env) (hpl : (backTo pos (starEach [e2] X.env)).any (·.1) = false) :
    PI X (.Tuple elts kk tpos) (.Call (.Name "zip" p) [e, e2] [] pos) (iZipB X.K ta) := by
  refine ⟨fun pins s σ H R I h => ?_⟩
  refine Call_ (ld_blt I hg hm PyProof.Rows.boot_zip (PyProof.Rows.callWith_type1 (thn (ha.run pos pins s σ H _ I h) fun us s1 w1 => ?_) hs hpl))
  obtain ⟨vs, H1, I1, r1, a, b, xs, ys, c, d, rfl, hqx, hqy, q⟩ := w1
  cases r1 with
  | cons r rr =>
    cases rr with
    | cons r' rr =>
      cases rr
      cases r
      cases r'
      obtain ⟨its, rv, p1, la⟩ := inv_B I1 hqx
      obtain ⟨its2, rv2, p2, lb⟩ := inv_B I1 hqy
      refine zip_begins2 (begins_B c a its.toArray) (begins_B d b its2.toArray) p1 p2 fun h' hz hTI hTO g1 g2 hsz hk => wpAny_pyIter_zip hz ?_
      have I2 : Inv X pins σ H1 { s1 with heap := h' } := I1.kept (t' := s1.toks) hk
      have sp := zip_sep2 (N := s1.heap.objs.size) (fp1 := [a]) (fp2 := [b]) (by simpa using la) (by simpa using lb)
      have ap : Apart2 (s1.heap.objs.size + 4) (s1.heap.objs.size + 2) (s1.heap.objs.size + 3) s1.heap.objs.size (s1.heap.objs.size + 1) a b := ⟨sp, Nat.ne_of_lt la, Nat.ne_of_lt (Nat.lt_succ_of_lt lb)⟩
      refine ⟨s1.heap.objs.size + 4, [s1.heap.objs.size + 4, s1.heap.objs.size + 2, s1.heap.objs.size + 3, s1.heap.objs.size, s1.heap.objs.size + 1], _, _, H1, rfl, I2, turn_zipB (c := c) (d := d) ap, ⟨hz, hTI, ⟨_, _, hTO⟩, itB_new g1, itB_new g2⟩, fun q' hq' => ?_, q⟩
      have hle : s1.heap.objs.size ≤ q' := by
        rcases (show q' = s1.heap.objs.size + 4 ∨ q' = s1.heap.objs.size + 2 ∨ q' = s1.heap.objs.size + 3 ∨ q' = s1.heap.objs.size ∨ q' = s1.heap.objs.size + 1 by simpa using hq') with z | z | z | z | z
        · rw [z]; exact Nat.le_add_right _ _
        · rw [z]; exact Nat.le_add_right _ _
        · rw [z]; exact Nat.le_add_right _ _
        · rw [z]; exact Nat.le_refl _
        · rw [z]; exact Nat.le_add_right _ _
      exact I1.fpOk hle (I1.hok.fresh hle)
end DL

set_option Elab.async false
set_option linter.all false
set_option maxRecDepth 100000
set_option maxHeartbeats 4000000
namespace DL
open PySem PySem.Spec PyProof.Rows L2 RZ

/-! ### what is walked -/
/-- later states of a comprehension: what stands stands, but the draw -/
def Rc (F : Fm) (O : Addr → Prop) (H : Hp) : (Addr → Prop) → Hp → Prop := fun O2 H2 => (∀ b o, H b = some o → ¬ O b → ¬ O2 b) ∧ ∀ b o, F.dA ≠ some b → H b = some o → H2 b = some o
/-- later states of a loop: what nobody owned stands -/
def Rf (O : Addr → Prop) (H : Hp) : (Addr → Prop) → Hp → Prop := fun O2 H2 => ∀ b o, ¬ O b → H b = some o → ¬ O2 b ∧ H2 b = some o
def WkB (K : PySem.W.Frag) (F : Fm) (O : Addr → Prop) (H : Hp) (n : Bool) (J : L2.It) (ds : List D) : Prop := Wk K (Rc F O H) J ds ∧ (n = true → Wk K (Rf O H) J ds)
def tI (K : PySem.W.Frag) (Γ : Gam) (ec : Str → Value) (W : WX) (it : Ir) : TI := fun σ H R => ∃ F O ρ P E, EnvR K F O H σ ρ ∧ wpI Γ it ρ P E ∧ (∀ ds, P ds → ∀ J H', Stp K F O H H' → WkB K F O H' (nbI it) J ds → R J H') ∧ Er1 K ec W F O H σ E
theorem PI.conseq {X : Cx} {tg e : Expr} {t t' : TI} (h : PI X tg e t) (i : ∀ σ H R, t' σ H R → t σ H R) : PI X tg e t' := ⟨fun pins s σ H R I w => h.run pins s σ H R I (i σ H R w)⟩
section
variable {K : PySem.W.Frag} {F : Fm} {O : Addr → Prop} {H : Hp} {σ : L2.St} {ρ : Rho} {v : V} {ds es : List D}
/-- a list, as the two kinds of later states see it -/
theorem lst_later (e : EnvR K F O H σ ρ) (h : BDr K F.O0 O H v (.list ds)) : ∃ a xs, v = .ref a ∧ xs.length = ds.length ∧ H a = some (.lst xs) ∧ (∀ O2 H2, Rc F O H O2 H2 → SqL K H2 a xs ∧ DrA K O2 H2 xs ds) ∧ (Dr K O H v (.list ds) → ∀ O2 H2, Rf O H O2 H2 → SqL K H2 a xs ∧ DrA K O2 H2 xs ds) := by
  have key : ∀ {a : Addr} {xs : List V}, F.dA ≠ some a → H a = some (.lst xs) → DrA K O H xs ds → ∀ O2 H2, Rc F O H O2 H2 → SqL K H2 a xs ∧ DrA K O2 H2 xs ds := fun {a xs} n h1 h2 O2 H2 r =>
    ⟨SqL.of (r.2 a _ n h1), DrA.stay (fun b o q m => r.1 b o q m) (fun b o m q => r.2 b o (e.nd m) q) ds xs h2⟩
  rcases h with h | ⟨a, xs, ds', rfl, q, n, h1, h2⟩
  · cases h with
    | @lst a xs _ h1 h2 h3 =>
      refine ⟨a, xs, rfl, h3.length, h1, key (e.nd h2) h1 h3, fun _ O2 H2 r => ⟨SqL.of (r a _ h2 h1).2, DrA.stay (fun b o q m => (r b o m q).1) (fun b o m q => (r b o m q).2) ds xs h3⟩⟩
  · cases q
    refine ⟨a, xs, rfl, h2.length, h1, key (e.ndo n) h1 h2, fun hd O2 H2 r => ?_⟩
    cases hd with
    | @lst _ xs' _ g1 g2 g3 =>
      rw [h1] at g1
      cases g1
      exact ⟨SqL.of (r a _ g2 h1).2, DrA.stay (fun b o q m => (r b o m q).1) (fun b o m q => (r b o m q).2) ds xs h2⟩
theorem tup_later (e : EnvR K F O H σ ρ) (h : BDr K F.O0 O H v (.tuple ds)) : ∃ a xs, v = .ref a ∧ xs.length = ds.length ∧ SqT K H a xs ∧ (∀ O2 H2, Rc F O H O2 H2 → SqT K H2 a xs ∧ DrA K O2 H2 xs ds) ∧ (∀ O2 H2, Rf O H O2 H2 → SqT K H2 a xs ∧ DrA K O2 H2 xs ds) := by
  cases h.tupDr with
  | @tup a xs _ h1 h3 =>
    refine ⟨a, xs, rfl, h3.length, h1.sq, fun O2 H2 r => ⟨?_, DrA.stay (fun b o q m => r.1 b o q m) (fun b o m q => r.2 b o (e.nd m) q) ds xs h3⟩, fun O2 H2 r => ⟨?_, DrA.stay (fun b o q m => (r b o m q).1) (fun b o m q => (r b o m q).2) ds xs h3⟩⟩
    · exact (StT.stay (O' := O2) (H' := H2) h1 (fun b o q m => r.1 b o q m) fun o m q => r.2 a o (e.nd m) q).sq
    · exact (StT.stay (O' := O2) (H' := H2) h1 (fun b o q m => (r b o m q).1) fun o m q => (r a o m q).2).sq
end
section
variable {X : Cx} {Γ : Gam} {ec : Str → Value} {W : WX} {a b c t : Ex} {ea eb et e0 tge : Expr} {pos p : Pos}
def iSeq (K : PySem.W.Frag) (tl : TE) : TI := fun σ H R => tl σ H fun x H1 => ∃ a, x = .ref a ∧ ((∃ xs, SqL K H1 a xs ∧ R (Itl K a) H1) ∨ ∃ xs, SqT K H1 a xs ∧ R (Itt K a) H1)
theorem pi_seq {l : Expr} {tl : TE} (hl : PE X l tl) : PI X tge l (iSeq X.K tl) := by
  refine ⟨fun pins s σ H R I h => ?_⟩
  refine thn (hl.run pins s σ H _ I h) fun v s1 ⟨x, H1, I1, r1, q1⟩ => ?_
  obtain ⟨a, e, q⟩ := q1
  subst e
  cases r1
  rcases q with ⟨xs, hq, q⟩ | ⟨xs, hq, q⟩
  · obtain ⟨its, rv, p, hz⟩ := I1.list hq
    refine wpAny_pyIter_list p.isList ?_
    refine ⟨s1.heap.objs.size, [s1.heap.objs.size], _, _, H1, rfl, I1.kept (t' := s1.toks) fun b o e => Heap.get?_push_of_some _ e, turn_list a _, ⟨_, Heap.get?_push_size _ rfl, rfl, rfl⟩, fun b hb => ?_, q⟩
    have e : b = s1.heap.objs.size := by simpa using hb
    subst e
    exact I1.fpOk (Nat.le_refl _) (I1.hok.fresh (Nat.le_refl _))
  · obtain ⟨its, rv, p, hz⟩ := I1.tuple hq
    refine wpAny_pyIter_tuple (show s1.heap.IsTuple a its.toArray from p) ?_
    refine ⟨s1.heap.objs.size, [s1.heap.objs.size], _, _, H1, rfl, I1.kept (t' := s1.toks) fun b o e => Heap.get?_push_of_some _ e, turn_tuple a _, ⟨_, Heap.get?_push_size _ rfl, rfl, rfl⟩, fun b hb => ?_, q⟩
    have e : b = s1.heap.objs.size := by simpa using hb
    subst e
    exact I1.fpOk (Nat.le_refl _) (I1.hok.fresh (Nat.le_refl _))
theorem sni_seq (ha : SE X Γ ec W a ea) : PI X tge ea (tI X.K Γ ec W (.seq a)) := by
  refine PI.conseq (pi_seq ha) fun σ H R h => ?_
  obtain ⟨F, O, ρ, P, E, e, w, hP, hE⟩ := h
  unfold wpI at w
  refine ⟨F, O, ρ, _, E, e, w, fun d hd v H1 s1 r1 => ?_, hE⟩
  unfold seqOf at hd
  split at hd
  · obtain ⟨x, xs, rfl, hl, h0, h1, h2⟩ := lst_later (e.stp s1) r1.b
    exact ⟨x, rfl, .inl ⟨xs, SqL.of h0, hP _ hd _ H1 s1 ⟨wk_list (fun O2 H2 r => (h1 O2 H2 r).1) (fun O2 H2 r => (h1 O2 H2 r).2) hl, fun n => wk_list (fun O2 H2 r => (h2 (r1.n n) O2 H2 r).1) (fun O2 H2 r => (h2 (r1.n n) O2 H2 r).2) hl⟩⟩⟩
  · obtain ⟨x, xs, rfl, hl, h0, h1, h2⟩ := tup_later (e.stp s1) r1.b
    exact ⟨x, rfl, .inr ⟨xs, h0, hP _ hd _ H1 s1 ⟨wk_tup (fun O2 H2 r => (h1 O2 H2 r).1) (fun O2 H2 r => (h1 O2 H2 r).2) hl, fun n => wk_tup (fun O2 H2 r => (h2 O2 H2 r).1) (fun O2 H2 r => (h2 O2 H2 r).2) hl⟩⟩⟩
  · exact hd.elim
theorem fzs1 {ss : List Sl} {d : D} (h : fzs ss = some [d]) : ss = [.fz d] := by
  cases ss with
  | nil => simp [fzs] at h
  | cons s r =>
    cases s with
    | fz e =>
      simp only [fzs, Option.map_eq_some_iff] at h
      obtain ⟨q, h1, h2⟩ := h
      cases h2
      cases r with
      | nil => rfl
      | cons s' r' => cases s' <;> simp [fzs] at h1
    | _ => simp [fzs] at h
theorem sni_rng1 {es : Exs} (hg : Gl X "range") (hm : X.mg "range" = none) (ha : SA X Γ ec W es [ea]) (hs : starred ea = false) (h1e : lenX es = 1) : PI X tge (.Call (.Name "range" p) [ea] [] pos) (tI X.K Γ ec W (.rng es)) := by
  refine PI.conseq (pi_range1 hg hm ha (star_cons hs)) fun σ H R h => ?_
  obtain ⟨F, O, ρ, P, E, e, w, hP, hE⟩ := h
  unfold wpI at w
  refine ⟨F, O, ρ, _, E, e, w, fun ss hss vs H1 s1 r1 hl => ?_, hE⟩
  obtain ⟨ds, hds, q⟩ := optQ_iff hss
  have hb := args_bdr r1 hds
  unfold rngW at q
  split at q
  · rename_i j
    obtain ⟨v, rfl, h1⟩ := Paired.one hb
    rw [h1.int]
    exact ⟨_, rfl, q.1.1, q.1.2, hP _ q.2 _ H1 s1 ⟨wk_range, fun _ => wk_range⟩⟩
  · obtain ⟨v, v', rfl, h1⟩ := Paired.two hb
    rw [h1e] at hl
    cases hl
  · exact q.elim
theorem sni_rng2 {es : Exs} (hg : Gl X "range") (hm : X.mg "range" = none) (ha : SA X Γ ec W es [ea, eb]) (hs : starred ea = false) (hs2 : starred eb = false) (h1e : lenX es = 2) : PI X tge (.Call (.Name "range" p) [ea, eb] [] pos) (tI X.K Γ ec W (.rng es)) := by
  refine PI.conseq (pi_range2 hg hm ha (by rw [star_cons hs, star_cons hs2]; rfl) (star_cons hs2)) fun σ H R h => ?_
  obtain ⟨F, O, ρ, P, E, e, w, hP, hE⟩ := h
  unfold wpI at w
  refine ⟨F, O, ρ, _, E, e, w, fun ss hss vs H1 s1 r1 hl => ?_, hE⟩
  obtain ⟨ds, hds, q⟩ := optQ_iff hss
  have hb := args_bdr r1 hds
  unfold rngW at q
  split at q
  · obtain ⟨v, rfl, h1⟩ := Paired.one hb
    rw [h1e] at hl
    cases hl
  · obtain ⟨v, v', rfl, h1, h2⟩ := Paired.two hb
    rw [h1.int, h2.int]
    exact ⟨_, _, rfl, ⟨q.1.1, q.1.2, q.2.1.1, q.2.1.2⟩, hP _ q.2.2 _ H1 s1 ⟨wk_range, fun _ => wk_range⟩⟩
  · exact q.elim
theorem wk_enumT {K : PySem.W.Frag} {R : (Addr → Prop) → Hp → Prop} {a : Addr} {xs : List V} {ds : List D} (h1 : ∀ O' H', R O' H' → SqT K H' a xs) (h2 : ∀ O' H', R O' H' → DrA K O' H' xs ds) (hl : xs.length = ds.length) : Wk K R (ItEt K a) (enumD ds) := by
  refine ⟨fun H => SqT K H a xs, fun i H v H' => ∃ T x, v = .ref T ∧ H T = none ∧ H' = upd H T (.tup [.int (i : Nat), x]) ∧ xs[i]? = some x, ⟨fun i H hi q => ⟨xs, xs[i]'(by rw [enumD_length] at hi; omega), q, by simp⟩, fun H q => ⟨xs, q, by rw [enumD_length]; omega⟩, fun i H v H' hi q y => ?_⟩, h1, fun O' H' i x H'' r dm hi y => ?_⟩
  · obtain ⟨T, x, e1, e2, e3, e4⟩ := y
    exact ⟨T, x, e1, e2, e3, e4 xs q⟩
  · obtain ⟨T, u, rfl, hT, rfl, e2⟩ := y
    obtain ⟨d, e3, h3⟩ := (h2 O' _ r).get e2
    obtain ⟨p1, p2⟩ := dr_pair dm hT (.int (i : Nat)) h3
    exact ⟨p1, _, enumD_get e3, p2⟩
theorem sni_enum {elts : List Expr} {kk : Nat} {tpos : Pos} (hg : Gl X "enumerate") (hm : X.mg "enumerate" = none) (ha : SE X Γ ec W a ea) (hs : starred ea = false) : PI X (.Tuple elts kk tpos) (.Call (.Name "enumerate" p) [ea] [] pos) (tI X.K Γ ec W (.enum a)) := by
  refine PI.conseq (pi_enumB hg hm (pa_cons ha pa_nil (star_cons hs)) (star_cons hs)) fun σ H R h => ?_
  obtain ⟨F, O, ρ, P, E, e, w, hP, hE⟩ := h
  unfold wpI at w
  refine ⟨F, O, ρ, _, E, e, w, fun d hd v H1 s1 r1 => ?_, hE⟩
  unfold enumW at hd
  split at hd
  · obtain ⟨x, xs, rfl, hl, h0, h1, h2⟩ := lst_later (e.stp s1) r1.b
    exact ⟨x, xs, rfl, .inl ⟨SqL.of h0, hP _ hd _ H1 s1 ⟨wk_enum (fun O2 H2 r => (h1 O2 H2 r).1) (fun O2 H2 r => (h1 O2 H2 r).2) hl, fun n => wk_enum (fun O2 H2 r => (h2 (r1.n n) O2 H2 r).1) (fun O2 H2 r => (h2 (r1.n n) O2 H2 r).2) hl⟩⟩⟩
  · obtain ⟨x, xs, rfl, hl, h0, h1, h2⟩ := tup_later (e.stp s1) r1.b
    exact ⟨x, xs, rfl, .inr ⟨h0, hP _ hd _ H1 s1 ⟨wk_enumT (fun O2 H2 r => (h1 O2 H2 r).1) (fun O2 H2 r => (h1 O2 H2 r).2) hl, fun n => wk_enumT (fun O2 H2 r => (h2 O2 H2 r).1) (fun O2 H2 r => (h2 O2 H2 r).2) hl⟩⟩⟩
  · exact hd.elim
theorem wk_zipB {K : PySem.W.Frag} {R : (Addr → Prop) → Hp → Prop} {c d : Bool} {a b : Addr} {xs ys : List V} {ds es : List D} (h1 : ∀ O' H', R O' H' → SqB c K H' a xs) (h2 : ∀ O' H', R O' H' → DrA K O' H' xs ds) (hl : xs.length = ds.length) (g1 : ∀ O' H', R O' H' → SqB d K H' b ys) (g2 : ∀ O' H', R O' H' → DrA K O' H' ys es) (gl : ys.length = es.length) :
    Wk K R (ItzB K c d a b) (zipD ds es) := by
  refine ⟨fun H => SqB c K H a xs ∧ SqB d K H b ys, YPair (fun i => xs[i]?) (fun i => ys[i]?), ⟨fun i H hi q => ?_, fun H q => ⟨xs, ys, q.1, q.2, ?_⟩, fun i H v H' hi q y => ?_⟩, fun O' H' r => ⟨h1 O' H' r, g1 O' H' r⟩, fun O' H' i x H'' r dm hi y => ?_⟩
  · have hz : (zipD ds es).length = min ds.length es.length := by unfold zipD; rw [List.length_zipWith]
    rw [hz] at hi
    exact ⟨xs, ys, xs[i]'(by omega), ys[i]'(by omega), q.1, q.2, by simp, by simp⟩
  · have hz : (zipD ds es).length = min ds.length es.length := by unfold zipD; rw [List.length_zipWith]
    rw [hz]
    omega
  · obtain ⟨T, x, z, e1, e2, e3, e4, e5⟩ := y
    exact ⟨T, x, z, e1, e2, e3, e4 xs q.1, e5 ys q.2⟩
  · obtain ⟨T, u, v, rfl, hT, rfl, e1, e2⟩ := y
    obtain ⟨d, e3, h3⟩ := (h2 O' _ r).get e1
    obtain ⟨e, e4, h4⟩ := (g2 O' _ r).get e2
    obtain ⟨p1, p2⟩ := dr_pair dm hT h3 h4
    exact ⟨p1, _, zipD_get e3 e4, p2⟩
/-- a list or a tuple, as it stands now and later -/
theorem seq_later {K : PySem.W.Frag} {F : Fm} {O : Addr → Prop} {H : Hp} {σ : L2.St} {ρ : Rho} {v : V} {x : D} {P : List D → Prop} (e : EnvR K F O H σ ρ) (h : BDr K F.O0 O H v x) (hx : seqOf x P) :
    ∃ (ds : List D) (c : Bool) (a : Addr) (xs : List V), P ds ∧ v = .ref a ∧ xs.length = ds.length ∧ SqB c K H a xs ∧ (∀ O2 H2, Rc F O H O2 H2 → SqB c K H2 a xs ∧ DrA K O2 H2 xs ds) ∧ (Dr K O H v x → ∀ O2 H2, Rf O H O2 H2 → SqB c K H2 a xs ∧ DrA K O2 H2 xs ds) := by
  cases x with
  | list ds =>
    obtain ⟨a, xs, h1, h2, h3, h4, h5⟩ := lst_later e h
    exact ⟨ds, true, a, xs, hx, h1, h2, SqL.of h3, h4, h5⟩
  | tuple ds =>
    obtain ⟨a, xs, h1, h2, h3, h4, h5⟩ := tup_later e h
    exact ⟨ds, false, a, xs, hx, h1, h2, h3, h4, fun _ => h5⟩
  | _ => exact hx.elim
theorem sni_zip {elts : List Expr} {kk : Nat} {tpos : Pos} (hg : Gl X "zip") (hm : X.mg "zip" = none) (ha : SE X Γ ec W a ea) (hb : SE X Γ ec W b eb) (hs : starred ea = false) (hs2 : starred eb = false) : PI X (.Tuple elts kk tpos) (.Call (.Name "zip" p) [ea, eb] [] pos) (tI X.K Γ ec W (.zip a b)) := by
  refine PI.conseq (pi_zipB hg hm (pa_cons ha (pa_cons hb pa_nil (star_cons hs2)) (star_cons hs)) (star_cons hs) (by rw [star_cons hs2]; rfl)) fun σ H R h => ?_
  obtain ⟨F, O, ρ, P, E, e, w, hP, hE⟩ := h
  unfold wpI at w
  refine ⟨F, O, ρ, _, E, e, w, fun d hd v H1 s1 r1 => ?_, hE⟩
  refine ⟨F, O, ρ, _, E, e.stp s1, hd, fun y hy u H2 s2 r2 => ?_, hE.next s1⟩
  have e2 := (e.stp s1).stp s2
  have b1 := r1.b.stp (e.stp s1) s2
  unfold zipW at hy
  obtain ⟨ds, c, x, xs, hy, rfl, hl, h0, h1, h2⟩ := seq_later e2 b1 hy
  obtain ⟨es, cc, z, zs, hy, rfl, gl, g0, g1, g2⟩ := seq_later e2 r2.b hy
  refine ⟨x, z, xs, zs, c, cc, rfl, h0, g0, hP _ hy _ H2 (s1.trans s2) ⟨wk_zipB (fun O2 H2 r => (h1 O2 H2 r).1) (fun O2 H2 r => (h1 O2 H2 r).2) hl (fun O2 H2 r => (g1 O2 H2 r).1) (fun O2 H2 r => (g1 O2 H2 r).2) gl, fun n => ?_⟩⟩
  simp only [nbI, Bool.and_eq_true] at n
  exact wk_zipB (fun O2 H2 r => (h2 ((r1.n n.1).stp (e.stp s1) s2) O2 H2 r).1) (fun O2 H2 r => (h2 ((r1.n n.1).stp (e.stp s1) s2) O2 H2 r).2) hl (fun O2 H2 r => (g2 (r2.n n.2) O2 H2 r).1) (fun O2 H2 r => (g2 (r2.n n.2) O2 H2 r).2) gl
end
end DL

set_option Elab.async false
set_option linter.all false
set_option maxRecDepth 100000
set_option maxHeartbeats 4000000
namespace DL
open PySem PySem.Spec PyProof.Rows L2

/-! ### comprehensions -/
section
variable {K : PySem.W.Frag} {F : Fm} {O : Addr → Prop} {H H' : Hp} {σ : L2.St} {ρ : Rho} {p : Addr} {xs ys : List V}
theorem EnvR.wipe (e : EnvR K F O H σ ρ) : ∀ vs : List Nat, EnvR K F O H (L2.wipe σ vs) (wipeR ρ vs)
  | [] => e
  | v :: vs => (EnvR.wipe e vs).unset none
/-- nobody's slot holds p -/
def NoSlot (σ : L2.St) (ρ : Rho) (p : Addr) : Prop := ∀ (i : Nat) (d : Sl), d.isOw = true → ρ[i]? = some (some d) → σ[i]? ≠ some (some (.ref p))
/-- the heap grows by a list that no slot holds -/
theorem EnvR.grow (e : EnvR K F O H σ ρ) (hp : H p = none) : EnvR K F (fun a => O a ∨ a = p) (upd H p (.lst xs)) σ ρ ∧ NoSlot σ ρ p := by
  have sm : Same H (upd H p (.lst xs)) := same_upd hp
  have e' := e.stp (Stp.same e sm)
  have np : ¬ O p := e.dom.fresh hp
  have up : ∀ {v : V} {d : D}, Dr K O H v d → Dr K (fun a => O a ∨ a = p) (upd H p (.lst xs)) v d := fun {v d} hd => (hd.more hp).same sm
  have upA : ∀ {v : List V} {d : List D}, DrA K O H v d → DrA K (fun a => O a ∨ a = p) (upd H p (.lst xs)) v d := fun {v d} hd => (hd.more hp).same sm
  refine ⟨⟨e.len, fun j s q => ?_, e.sep, fun a h => .inl (e.sub a h), fun a h => ?_, fun a h n => ?_, e'.keep, fun a h => ?_⟩, fun i d ho h1 h2 => ?_⟩
  · obtain ⟨w, h1, h2⟩ := e.slot j s q
    refine ⟨w, h1, ?_⟩
    cases s with
    | fz d => exact up h2
    | dr => exact h2
    | ow d =>
      obtain ⟨a, rfl, h3, h4, ys, es, rfl, h5, h6⟩ := h2
      exact ⟨a, rfl, .inl h3, h4, ys, es, rfl, sm _ _ h5, upA h6⟩
    | od kvs =>
      obtain ⟨a, rfl, h3, h4, h5⟩ := h2
      exact ⟨a, rfl, .inl h3, h4, h5.map (fun o q => sm _ _ q) fun v d q => up q⟩
    | lk a ys es =>
      obtain ⟨rfl, h3, h4, h5, h6⟩ := h2
      exact ⟨rfl, .inl h3, h4, sm _ _ h5, upA h6⟩
  · rcases h with h | rfl
    · exact e'.dom a h
    · exact ⟨_, upd_same⟩
  · rcases h with h | rfl
    · exact e.unp a h n
    · cases q : F.H0 a with
      | none => rfl
      | some o =>
        by_cases hd : F.dA = some a
        · exact absurd (e.drw a hd).1 n
        · rw [e.keep a o hd q] at hp; cases hp
  · obtain ⟨h1, cells, i', cur, seed, g1, g2, g3, g4⟩ := e'.drw a h
    refine ⟨h1, cells, i', cur, seed, g1, g2, fun q => ?_, g4⟩
    rcases q with q | q
    · exact g3 q
    · obtain ⟨_, cells0, i0, cur0, seed0, k1, k2, _⟩ := e.drw a h
      rw [q, hp] at k2; cases k2
  · obtain ⟨w, g1, g2⟩ := e.slot i _ h1
    rw [h2] at g1
    cases g1
    cases d with
    | ow f => obtain ⟨b, e1, g2, _⟩ := g2; cases e1; exact np g2
    | od f => obtain ⟨b, e1, g2, _⟩ := g2; cases e1; exact np g2
    | lk _ _ _ => obtain ⟨e1, g2, _⟩ := g2; cases e1; exact np g2
    | _ => cases ho
/-- that list changes -/
theorem EnvR.touch (e : EnvR K F O H σ ρ) (n : NoSlot σ ρ p) (hO : O p) (h0 : ¬ F.O0 p) : EnvR K F O (upd H p (.lst ys)) σ ρ := by
  have kp : ∀ b o, ¬ O b → H b = some o → (upd H p (.lst ys)) b = some o := fun b o nb q => by
    rw [upd_ne (fun z => nb (by rw [z]; exact hO))]
    exact q
  have nda : F.dA ≠ some p := e.ndo h0
  refine ⟨e.len, fun j s q => ?_, e.sep, e.sub, fun b hb => ?_, e.unp, fun b o nb hb => ?_, fun b hb => ?_⟩
  · obtain ⟨w, h1, h2⟩ := e.slot j s q
    refine ⟨w, h1, ?_⟩
    cases s with
    | fz d => exact Dr.stay (fun _ _ _ n => n) kp d w h2
    | dr => exact h2
    | ow d =>
      obtain ⟨a, rfl, h3, h4, ys', es, rfl, h5, h6⟩ := h2
      have na : a ≠ p := fun z => n j _ rfl q (by rw [h1, z])
      exact ⟨a, rfl, h3, h4, ys', es, rfl, by rw [upd_ne na]; exact h5, DrA.stay (fun _ _ _ n => n) kp es ys' h6⟩
    | od kvs =>
      obtain ⟨a, rfl, h3, h4, h5⟩ := h2
      have na : a ≠ p := fun z => n j _ rfl q (by rw [h1, z])
      exact ⟨a, rfl, h3, h4, h5.map (fun o q => by rw [upd_ne na]; exact q) fun v d q => Dr.stay (fun _ _ _ n => n) kp d v q⟩
    | lk a ys' es =>
      obtain ⟨rfl, h3, h4, h5, h6⟩ := h2
      have na : a ≠ p := fun z => n j _ rfl q (by rw [h1, z])
      exact ⟨rfl, h3, h4, by rw [upd_ne na]; exact h5, DrA.stay (fun _ _ _ n => n) kp es ys' h6⟩
  · by_cases hba : b = p
    · subst hba; exact ⟨_, upd_same⟩
    · rw [upd_ne hba]; exact e.dom b hb
  · have hba : b ≠ p := fun z => by
      rw [z, e.unp p hO h0] at hb; cases hb
    rw [upd_ne hba]
    exact e.keep b o nb hb
  · obtain ⟨g1, cells, i', cur, seed, k1, k2, k3, k4⟩ := e.drw b hb
    have nb : b ≠ p := fun z => nda (by rw [← z]; exact hb)
    have nc : F.dC ≠ p := fun z => k3 (by rw [z]; exact hO)
    exact ⟨g1, cells, i', cur, seed, by rw [upd_ne nb]; exact k1, by rw [upd_ne nc]; exact k2, k3, k4⟩
theorem wipe_get : ∀ {vs : List Nat} {σ : L2.St} {j : Nat}, (L2.wipe σ vs)[j]? = if j ∈ vs ∧ j < σ.length then some none else σ[j]?
  | [], σ, j => by simp [L2.wipe]
  | v :: vs, σ, j => by
    unfold L2.wipe
    by_cases hj : j = v
    · subst hj
      by_cases hl : j < σ.length
      · rw [List.getElem?_set_self (by rw [wipe_length]; exact hl), if_pos ⟨List.mem_cons_self, hl⟩]
      · rw [List.getElem?_eq_none (by rw [List.length_set, wipe_length]; omega), if_neg (fun q => hl q.2), List.getElem?_eq_none (by omega)]
    · rw [List.getElem?_set_ne (Ne.symm hj), wipe_get]
      by_cases hm : j ∈ vs ∧ j < σ.length
      · rw [if_pos hm, if_pos ⟨List.mem_cons_of_mem _ hm.1, hm.2⟩]
      · rw [if_neg hm, if_neg (fun q => hm ⟨(List.mem_cons.mp q.1).resolve_left hj, q.2⟩)]
theorem wipe_only {vs ts : List Nat} {σ' : L2.St} (h : Only ts σ σ') (hs : ∀ j ∈ ts, j ∈ vs) : L2.wipe σ' vs = L2.wipe σ vs := by
  apply List.ext_getElem?
  intro j
  rw [wipe_get, wipe_get, h.len]
  by_cases hm : j ∈ vs ∧ j < σ.length
  · rw [if_pos hm, if_pos hm]
  · rw [if_neg hm, if_neg hm]
    by_cases hj : j ∈ ts
    · have : ¬ j < σ.length := fun q => hm ⟨hs j hj, q⟩
      rw [List.getElem?_eq_none (by rw [h.len]; omega), List.getElem?_eq_none (by omega)]
    · exact h.at_ j hj
theorem wipe_idem {vs : List Nat} : L2.wipe (L2.wipe σ vs) vs = L2.wipe σ vs := by
  apply List.ext_getElem?
  intro j
  rw [wipe_get, wipe_get, wipe_length]
  by_cases hm : j ∈ vs ∧ j < σ.length
  · rw [if_pos hm, if_pos hm]
  · rw [if_neg hm, if_neg hm]
end

section
variable {X : Cx} {Γ : Gam} {ec : Str → Value} {W : WX}
abbrev W0 : WX := fun _ _ _ _ => False
theorem snd_comp {own : List (Str × Nat)} {elt : Ex} {tg : Tg} {it : Ir} {ifs : Eo} {eelt etg eiter : Expr} {eifs : List Expr} {scope : Scope} {pos : Pos} (hc : X.calm = true) (nd : X.N.Nodup) (hi : PI X etg eiter (tI X.K Γ ec W it)) (ok : BlkOk X.N X.env.scope scope own)
    (hsub : ∀ j ∈ slotsT tg, j ∈ own.map (·.2)) (hne : nb elt = true)
    (hg : ∀ (s : Shared) (H : Hp) (C : Addr) (cl : List (Str × Addr)) (fp : List Addr), PG (X.blk s H scope (compEnvC scope cl C X.env) fp) etg (tG X.K tg)) (ht : ∀ (s : Shared) (H : Hp) (C : Addr) (cl : List (Str × Addr)) (fp : List Addr), PTs (X.blk s H scope (compEnvC scope cl C X.env) fp) eifs (tC X.K Γ ec W0 ifs))
    (he : ∀ (s : Shared) (H : Hp) (C : Addr) (cl : List (Str × Addr)) (fp : List Addr), PE (X.blk s H scope (compEnvC scope cl C X.env) fp) eelt (tE X.K Γ ec W0 elt)) (hs : ∀ x, foldedSetIterable eiter X.env x = pure x) :
    SE X Γ ec W (.comp own elt tg it ifs) (.ListComp eelt [⟨etg, eiter, eifs, 0⟩] scope pos) ∧
    ∀ σ H Q, tE X.K Γ ec W (.comp own elt tg it ifs) σ H Q → tLc (tI X.K Γ ec W it) (tG X.K tg) (tC X.K Γ ec W0 ifs) (tE X.K Γ ec W0 elt) (own.map (·.2)) σ H Q := by
  have main : ∀ σ H Q, tE X.K Γ ec W (.comp own elt tg it ifs) σ H Q → tLc (tI X.K Γ ec W it) (tG X.K tg) (tC X.K Γ ec W0 ifs) (tE X.K Γ ec W0 elt) (own.map (·.2)) σ H Q := by
    intro σ H Q h
    obtain ⟨F, O, ρ, P, E, e, w, hP, hE⟩ := h
    unfold wpE at w
    refine ⟨F, O, ρ, _, E, e, w, fun ds hds J H1 s1 wk => ?_, hE⟩
    obtain ⟨hlen, hfold⟩ := hds
    obtain ⟨G, Y, walk, hGR, hY⟩ := wk.1
    intro D hD
    have e1 := e.stp s1
    have ndO : ¬ O D := e1.dom.fresh hD
    have nO0 : ¬ F.O0 D := fun q => ndO (e1.sub D q)
    have nda : F.dA ≠ some D := e1.ndo nO0
    generalize hvs : own.map (·.2) = vs at *
    generalize hst : (fun (d : PyData) (acc : List PyData) (k : List PyData → Prop) => bindT tg d (wipeR ρ vs) fun ρ1 => wpC Γ ifs ρ1 (fun c => if c = true then wpE Γ elt ρ1 (fun y => k (acc ++ [y])) nE else k acc) nE) = step at hfold
    -- later states
    have later : ∀ {O2 : Addr → Prop} {H2 : Hp}, EnvR X.K F (fun a => O a ∨ a = D) H2 (L2.wipe σ vs) (wipeR ρ vs) → (∀ b o, F.dA ≠ some b → H1 b = some o → H2 b = some o) → Rc F O H1 (fun a => O a ∨ a = D) H2 := fun {O2 H2} e2 k =>
      ⟨fun b o q m z => (by
        rcases z with z | z
        · exact m z
        · rw [z, hD] at q; cases q), k⟩
    refine lc_it walk (fun i H' => ∃ xs acc, EnvR X.K F (fun a => O a ∨ a = D) H' (L2.wipe σ vs) (wipeR ρ vs) ∧ NoSlot (L2.wipe σ vs) (wipeR ρ vs) D ∧ (∀ b o, F.dA ≠ some b → H1 b = some o → H' b = some o) ∧ H' D = some (.lst xs) ∧ DrA X.K (fun a => O a ∨ a = D) H' xs acc ∧ xs.length ≤ i ∧ foldW step (ds.drop i) acc fun acc => P (.list acc)) ?_ ?_ ?_ ?_
    · obtain ⟨g1, g2⟩ := (e1.wipe vs).grow (xs := []) hD
      exact ⟨[], [], g1, g2, fun b o _ q => same_upd hD b o q, upd_same, .nil, Nat.le_refl _, by rw [List.drop_zero]; exact hfold⟩
    · rintro i H' _ ⟨xs, acc, e2, n2, k2, _⟩
      exact hGR _ _ (later (O2 := O) e2 k2)
    · rintro i x H' H'' hi ⟨xs, acc, e2, n2, k2, hx, hA, hl, hf⟩ y
      obtain ⟨sm, d, hd, hdr⟩ := hY _ _ i x H'' (later (O2 := O) e2 k2) e2.dom hi y
      have st2 : Stp X.K F (fun a => O a ∨ a = D) H' H'' := Stp.same e2 sm
      have e3 := e2.stp st2
      have edrop : ds.drop i = d :: ds.drop (i + 1) := by
        obtain ⟨h1, h2⟩ := List.getElem?_eq_some_iff.mp hd
        rw [List.drop_eq_getElem_cons h1, h2]
      rw [edrop] at hf
      unfold foldW at hf
      have hf' : bindT tg d (wipeR ρ vs) fun ρ1 => wpC Γ ifs ρ1 (fun c => if c = true then wpE Γ elt ρ1 (fun y => foldW step (ds.drop (i + 1)) (acc ++ [y]) fun acc => P (.list acc)) nE else foldW step (ds.drop (i + 1)) acc fun acc => P (.list acc)) nE := by
        rw [← hst] at hf ⊢
        exact hf
      -- what the next turn wants, from a later heap
      have stay : ∀ {H4 : Hp}, Stp X.K F (fun a => O a ∨ a = D) H'' H4 → EnvR X.K F (fun a => O a ∨ a = D) H4 (L2.wipe σ vs) (wipeR ρ vs) ∧ (∀ b o, F.dA ≠ some b → H1 b = some o → H4 b = some o) ∧ H4 D = some (.lst xs) ∧ DrA X.K (fun a => O a ∨ a = D) H4 xs acc := fun {H4} s4 =>
        ⟨e3.stp s4, fun b o n q => s4.keep b o n (sm b o (k2 b o n q)), s4.keep _ _ nda (sm _ _ hx), (hA.same sm).stp e3 s4⟩
      refine ⟨F, (fun a => O a ∨ a = D), wipeR ρ vs, d, _, e3, hdr, hf', fun ρ1 h1 σ1 on e4 => ?_⟩
      refine ⟨(wipe_only on hsub).trans wipe_idem, F, (fun a => O a ∨ a = D), ρ1, _, nE, e4, h1, fun b hb H3 s3 => ?_, fun x hx => hx.elim⟩
      cases b with
      | true =>
        rw [if_pos rfl] at hb ⊢
        refine ⟨F, (fun a => O a ∨ a = D), ρ1, _, nE, e4.stp s3, hb, fun yd hyd yv H4 s4 r4 => ?_, fun x hx => hx.elim⟩
        obtain ⟨g1, g2, g3, g4⟩ := stay (s3.trans s4)
        have hlt : xs.length < ds.length := Nat.lt_of_le_of_lt hl hi
        refine ⟨xs, g3, by omega, xs ++ [yv], acc ++ [yd], g1.touch n2 (.inr rfl) nO0, n2, fun b o n q => ?_, upd_same, ?_, by rw [List.length_append]; simp; exact hl, hyd⟩
        · have nb' : b ≠ D := fun z => by rw [z, hD] at q; cases q
          rw [upd_ne nb']
          exact g2 b o n q
        · have kp : ∀ b o, ¬ (O b ∨ b = D) → H4 b = some o → (upd H4 D (.lst (xs ++ [yv]))) b = some o := fun b o m q => by
            rw [upd_ne (fun z => m (.inr z))]
            exact q
          exact DrA.stay (fun _ _ _ n => n) kp _ _ (g4.append (.cons (r4.n hne) .nil))
      | false =>
        rw [if_neg Bool.false_ne_true] at hb ⊢
        obtain ⟨g1, g2, g3, g4⟩ := stay s3
        exact ⟨xs, acc, g1, n2, g2, g3, g4, by omega, hb⟩
    · rintro H' ⟨xs, acc, e2, n2, k2, hx, hA, hl, hf⟩
      rw [List.drop_length] at hf
      have hA' : DrA X.K O H' xs acc := DrA.stay (fun _ _ _ n q => n (.inl q)) (fun _ _ _ q => q) _ _ hA
      have hdr : Dr X.K O H' (.ref D) (.list acc) := .lst hx ndO hA'
      refine hP _ hf _ H' ⟨fun b o n q => k2 b o n (s1.keep b o n q), fun a ha => ?_⟩ ⟨.inl hdr, fun _ => hdr, fun _ ds' eq => ?_⟩
      · obtain ⟨h1, cells, i', cur, seed, q1, q2, q3, q4⟩ := e2.drw a ha
        exact ⟨cells, i', cur, seed, q1, q2, fun z => q3 (.inl z), q4⟩
      · cases eq
        exact ⟨D, xs, rfl, s1.free e hD, hx, hA⟩
  exact ⟨PE.conseq (pe_lc hc nd hi ok hg ht he hs) main, main⟩
/-! two clauses -/
/-- a target's binding makes no owned name -/
def NewOw (ts : List Nat) (ρ ρ' : Rho) : Prop := ∀ (i : Nat) (e : Sl), e.isOw = true → ρ'[i]? = some (some e) → i ∉ ts ∧ ρ[i]? = some (some e)
theorem newOw_trans {ts us : List Nat} {ρ ρ1 ρ2 : Rho} (h : NewOw ts ρ ρ1) (k : NewOw us ρ1 ρ2) : NewOw (ts ++ us) ρ ρ2 := fun i e ho q => by
  obtain ⟨h1, h2⟩ := k i e ho q
  obtain ⟨h3, h4⟩ := h i e ho h2
  exact ⟨fun m => (List.mem_append.mp m).elim h3 h1, h4⟩
mutual
theorem bindT_mono : ∀ (t : Tg) (d : D) (ρ : Rho) (P Q : Rho → Prop), (∀ r, P r → Q r) → bindT t d ρ P → bindT t d ρ Q
  | .n i, d, ρ, P, Q, h, q => by
    unfold bindT at q ⊢
    exact h _ q
  | .t ts, d, ρ, P, Q, h, q => by
    cases d with
    | tuple ds =>
      unfold bindT at q ⊢
      exact ⟨q.1, bindTs_mono ts ds ρ P Q h q.2⟩
    | _ => unfold bindT at q; exact q.elim
theorem bindTs_mono : ∀ (ts : Tgs) (ds : List D) (ρ : Rho) (P Q : Rho → Prop), (∀ r, P r → Q r) → bindTs ts ds ρ P → bindTs ts ds ρ Q
  | .nil, ds, ρ, P, Q, h, q => by
    unfold bindTs at q ⊢
    exact ⟨q.1, h _ q.2⟩
  | .cons t ts, [], ρ, P, Q, h, q => by unfold bindTs at q; exact q.elim
  | .cons t ts, d :: ds, ρ, P, Q, h, q => by
    unfold bindTs at q ⊢
    exact bindT_mono t d ρ _ _ (fun r hr => bindTs_mono ts ds r P Q h hr) q
end
mutual
theorem bindT_ow : ∀ (t : Tg) (d : D) (ρ : Rho) (P : Rho → Prop), bindT t d ρ P → bindT t d ρ fun ρ' => P ρ' ∧ NewOw (slotsT t) ρ ρ'
  | .n i, d, ρ, P, q => by
    unfold bindT at q ⊢
    refine ⟨q, fun j e ho h => ?_⟩
    rcases get_set h with ⟨_, e2, _⟩ | ⟨hj, h⟩
    · cases e2 <;> cases ho
    · exact ⟨by unfold slotsT; simpa using hj, h⟩
  | .t ts, d, ρ, P, q => by
    cases d with
    | tuple ds =>
      unfold bindT at q ⊢
      unfold slotsT
      exact ⟨q.1, bindTs_ow ts ds ρ P q.2⟩
    | _ => unfold bindT at q; exact q.elim
theorem bindTs_ow : ∀ (ts : Tgs) (ds : List D) (ρ : Rho) (P : Rho → Prop), bindTs ts ds ρ P → bindTs ts ds ρ fun ρ' => P ρ' ∧ NewOw (slotsTs ts) ρ ρ'
  | .nil, ds, ρ, P, q => by
    unfold bindTs at q ⊢
    exact ⟨q.1, q.2, fun i e ho h => ⟨by unfold slotsTs; simp, h⟩⟩
  | .cons t ts, [], ρ, P, q => by unfold bindTs at q; exact q.elim
  | .cons t ts, d :: ds, ρ, P, q => by
    unfold bindTs at q ⊢
    refine bindT_mono t d ρ _ _ (fun r hr => ?_) (bindT_ow t d ρ _ q)
    refine bindTs_mono ts ds r _ _ (fun r2 h2 => ⟨h2.1, ?_⟩) (bindTs_ow ts ds r P hr.1)
    unfold slotsTs
    exact newOw_trans hr.2 h2.2
end
/-- names bound otherwise than to the list keep off it -/
theorem NoSlot.bind {ts : List Nat} {σ σ' : L2.St} {ρ ρ' : Rho} {p : Addr} (n : NoSlot σ ρ p) (o : Only ts σ σ') (w : NewOw ts ρ ρ') : NoSlot σ' ρ' p := fun i d ho h => by
  obtain ⟨h1, h2⟩ := w i d ho h
  rw [o.at_ i h1]
  exact n i d ho h2
theorem wipeR_ow {vs : List Nat} {ρ : Rho} {i : Nat} {e : Sl} (ho : e.isOw = true) : (wipeR ρ vs)[i]? = some (some e) → ρ[i]? = some (some e) ∧ i ∉ vs := by
  induction vs with
  | nil => intro h; exact ⟨h, by simp⟩
  | cons v vs ih =>
    intro h
    unfold wipeR at h
    rcases get_set h with ⟨_, e2, _⟩ | ⟨hj, h⟩
    · cases e2 <;> cases ho
    · obtain ⟨h1, h2⟩ := ih h
      exact ⟨h1, fun m => (List.mem_cons.mp m).elim hj h2⟩
theorem NoSlot.wipe {vs : List Nat} {σ : L2.St} {ρ : Rho} {p : Addr} (n : NoSlot σ ρ p) : NoSlot (L2.wipe σ vs) (wipeR ρ vs) p := fun i d ho h => by
  obtain ⟨h1, h2⟩ := wipeR_ow ho h
  rw [wipe_get, if_neg (fun q => h2 q.1)]
  exact n i d ho h1
theorem NoSlot.none_ {σ : L2.St} {ρ : Rho} {K : PySem.W.Frag} {F : Fm} {O : Addr → Prop} {H : Hp} {p : Addr} (e : EnvR K F O H σ ρ) (hp : H p = none) : NoSlot σ ρ p := fun i d ho h1 h2 => by
  have np : ¬ O p := e.dom.fresh hp
  obtain ⟨w, g1, g2⟩ := e.slot i _ h1
  rw [h2] at g1
  cases g1
  cases d with
  | ow f => obtain ⟨b, e1, g2, _⟩ := g2; cases e1; exact np g2
  | od f => obtain ⟨b, e1, g2, _⟩ := g2; cases e1; exact np g2
  | lk _ _ _ => obtain ⟨e1, g2, _⟩ := g2; cases e1; exact np g2
  | _ => cases ho
theorem snd_comp2 {own : List (Str × Nat)} {elt : Ex} {tg tg1 : Tg} {it it1 : Ir} {ifs ifs1 : Eo} {eelt etg eiter etg1 eiter1 : Expr} {eifs eifs1 : List Expr} {scope : Scope} {pos : Pos} (hc : X.calm = true) (nd : X.N.Nodup) (hi : PI X etg eiter (tI X.K Γ ec W it)) (ok : BlkOk X.N X.env.scope scope own)
    (hsub : ∀ j ∈ slotsT tg, j ∈ own.map (·.2)) (hsub1 : ∀ j ∈ slotsT tg1, j ∈ own.map (·.2)) (hne : nb elt = true) (hni : nbI it1 = true)
    (hg : ∀ (s : Shared) (H : Hp) (C : Addr) (cl : List (Str × Addr)) (fp : List Addr), PG (X.blk s H scope (compEnvC scope cl C X.env) fp) etg (tG X.K tg)) (ht : ∀ (s : Shared) (H : Hp) (C : Addr) (cl : List (Str × Addr)) (fp : List Addr), PTs (X.blk s H scope (compEnvC scope cl C X.env) fp) eifs (tC X.K Γ ec W0 ifs))
    (hi1 : ∀ (s : Shared) (H : Hp) (C : Addr) (cl : List (Str × Addr)) (fp : List Addr), PI (X.blk s H scope (compEnvC scope cl C X.env) fp) etg1 eiter1 (tI X.K Γ ec W0 it1))
    (hg1 : ∀ (s : Shared) (H : Hp) (C : Addr) (cl : List (Str × Addr)) (fp : List Addr), PG (X.blk s H scope (compEnvC scope cl C X.env) fp) etg1 (tG X.K tg1)) (ht1 : ∀ (s : Shared) (H : Hp) (C : Addr) (cl : List (Str × Addr)) (fp : List Addr), PTs (X.blk s H scope (compEnvC scope cl C X.env) fp) eifs1 (tC X.K Γ ec W0 ifs1))
    (he : ∀ (s : Shared) (H : Hp) (C : Addr) (cl : List (Str × Addr)) (fp : List Addr), PE (X.blk s H scope (compEnvC scope cl C X.env) fp) eelt (tE X.K Γ ec W0 elt)) (hs : ∀ x, foldedSetIterable eiter X.env x = pure x) (hs1 : ∀ env x, foldedSetIterable eiter1 env x = pure x) :
    SE X Γ ec W (.comp2 own elt tg it ifs tg1 it1 ifs1) (.ListComp eelt [⟨etg, eiter, eifs, 0⟩, ⟨etg1, eiter1, eifs1, 0⟩] scope pos) ∧
    ∀ σ H Q, tE X.K Γ ec W (.comp2 own elt tg it ifs tg1 it1 ifs1) σ H Q → tLc2 (tI X.K Γ ec W it) (tG X.K tg) (tC X.K Γ ec W0 ifs) (tI X.K Γ ec W0 it1) (tG X.K tg1) (tC X.K Γ ec W0 ifs1) (tE X.K Γ ec W0 elt) (own.map (·.2)) (slotsT tg1) σ H Q := by
  have main : ∀ σ H Q, tE X.K Γ ec W (.comp2 own elt tg it ifs tg1 it1 ifs1) σ H Q → tLc2 (tI X.K Γ ec W it) (tG X.K tg) (tC X.K Γ ec W0 ifs) (tI X.K Γ ec W0 it1) (tG X.K tg1) (tC X.K Γ ec W0 ifs1) (tE X.K Γ ec W0 elt) (own.map (·.2)) (slotsT tg1) σ H Q := by
    intro σ H Q h
    obtain ⟨F, O, ρ, P, E, e, w, hP, hE⟩ := h
    unfold wpE at w
    refine ⟨F, O, ρ, _, E, e, w, fun ds hfold J H1 s1 wk => ?_, hE⟩
    obtain ⟨G, Y, walk, hGR, hY⟩ := wk.1
    intro D hD
    have e1 := e.stp s1
    have ndO : ¬ O D := e1.dom.fresh hD
    have nO0 : ¬ F.O0 D := fun q => ndO (e1.sub D q)
    have nda : F.dA ≠ some D := e1.ndo nO0
    generalize hvs : own.map (·.2) = vs at *
    generalize hO' : (fun a => O a ∨ a = D) = O'
    have oD : O' D := by rw [← hO']; exact .inr rfl
    have oO : ∀ {b : Addr}, ¬ O' b → ¬ O b := fun {b} n q => n (by rw [← hO']; exact .inl q)
    have oN : ∀ {b : Addr} {o : HO}, H1 b = some o → ¬ O b → ¬ O' b := fun {b o} q m z => by
      rw [← hO'] at z
      rcases z with z | z
      · exact m z
      · rw [z, hD] at q; cases q
    let step1 : List PyData → (List PyData → Prop) → Rho → PyData → List PyData → (List PyData → Prop) → Prop := fun _ _ ρ1 e acc k => bindT tg1 e (wipeR ρ1 (slotsT tg1)) fun ρ2 => wpC Γ ifs1 ρ2 (fun c => if c = true then wpE Γ elt ρ2 (fun y => acc.length < sizeLine ∧ k (acc ++ [y])) nE else k acc) nE
    let step : PyData → List PyData → (List PyData → Prop) → Prop := fun d acc k => bindT tg d (wipeR ρ vs) fun ρ1 => wpC Γ ifs ρ1 (fun c => if c = true then wpI Γ it1 ρ1 (fun es => foldW (step1 es k ρ1) es acc k) nE else k acc) nE
    have hfold : foldW step ds [] fun acc => P (.list acc) := hfold
    -- the state of the outer walk
    let Pv : Nat → Hp → Prop := fun i H' => ∃ xs acc, EnvR X.K F O' H' (L2.wipe σ vs) (wipeR ρ vs) ∧ NoSlot (L2.wipe σ vs) (wipeR ρ vs) D ∧ (∀ b o, F.dA ≠ some b → H1 b = some o → H' b = some o) ∧ H' D = some (.lst xs) ∧ DrA X.K O' H' xs acc ∧ foldW step (ds.drop i) acc fun acc => P (.list acc)
    have later : ∀ {i : Nat} {H2 : Hp}, Pv i H2 → Rc F O H1 O' H2 := fun {i H2} h => by
      obtain ⟨xs, acc, _, _, k, _⟩ := h
      exact ⟨fun b o q m => oN q m, k⟩
    -- a touch of D
    have touchA : ∀ {H4 : Hp} {xs : List V} {zs : List V} {acc : List PyData}, DrA X.K O' H4 zs acc → DrA X.K O' (upd H4 D (.lst xs)) zs acc := fun {H4 xs zs acc} h =>
      DrA.stay (fun _ _ _ n => n) (fun b o m q => by
        rw [upd_ne (fun z => m (by rw [z]; exact oD))]
        exact q) _ _ h
    have touchK : ∀ {H4 : Hp} {xs : List V}, (∀ b o, F.dA ≠ some b → H1 b = some o → H4 b = some o) → ∀ b o, F.dA ≠ some b → H1 b = some o → (upd H4 D (.lst xs)) b = some o := fun {H4 xs} k b o n q => by
      rw [upd_ne (fun z => by rw [z, hD] at q; cases q)]
      exact k b o n q
    refine ⟨fun i m H' => m = ds.length - i ∧ i ≤ ds.length ∧ Pv i H', ⟨ds.length, rfl, Nat.zero_le _, ?_⟩, fun i m H' hW => ?_⟩
    · obtain ⟨g1, g2⟩ := (e1.wipe vs).grow (xs := []) hD
      rw [hO'] at g1
      exact ⟨[], [], g1, g2, fun b o _ q => same_upd hD b o q, upd_same, .nil, by rw [List.drop_zero]; exact hfold⟩
    · obtain ⟨rfl, hi', hv⟩ := hW
      by_cases hlt : i < ds.length
      · refine .inr ⟨walk.goes i H' hlt (hGR _ _ (later hv)), fun H2 => Pv (i + 1) H2, fun H2 p' => ⟨ds.length - (i + 1), by omega, rfl, hlt, p'⟩, fun x H'' y => ?_⟩
        obtain ⟨sm, d, hd, hdr⟩ := hY _ _ i x H'' (later hv) (by obtain ⟨xs, acc, e2, _⟩ := hv; exact e2.dom) hlt (walk.yields i H' x H'' hlt (hGR _ _ (later hv)) y)
        obtain ⟨xs, acc, e2, n2, k2, hx, hA, hf⟩ := hv
        have st2 : Stp X.K F O' H' H'' := Stp.same e2 sm
        have e3 := e2.stp st2
        have edrop : ds.drop i = d :: ds.drop (i + 1) := by
          obtain ⟨h1, h2⟩ := List.getElem?_eq_some_iff.mp hd
          rw [List.drop_eq_getElem_cons h1, h2]
        rw [edrop] at hf
        unfold foldW at hf
        have hf' : bindT tg d (wipeR ρ vs) fun ρ1 => wpC Γ ifs ρ1 (fun c => if c = true then wpI Γ it1 ρ1 (fun es => foldW (step1 es (fun _ => True) ρ1) es acc (fun acc' => foldW step (ds.drop (i + 1)) acc' fun acc => P (.list acc))) nE else foldW step (ds.drop (i + 1)) acc fun acc => P (.list acc)) nE := hf
        refine ⟨F, O', wipeR ρ vs, d, _, e3, hdr, bindT_ow tg d _ _ hf', fun ρ1 h1 σ1 on e4 => ?_⟩
        have nS1 : NoSlot σ1 ρ1 D := n2.bind on h1.2
        refine ⟨(wipe_only on hsub).trans wipe_idem, F, O', ρ1, _, nE, e4, h1.1, fun b hb H3 s3 => ?_, fun x hx => hx.elim⟩
        have sA := st2.trans s3
        have hx3 : H3 D = some (.lst xs) := s3.keep _ _ nda (sm _ _ hx)
        have hA3 : DrA X.K O' H3 xs acc := (hA.same sm).stp e3 s3
        have k3 : ∀ b o, F.dA ≠ some b → H1 b = some o → H3 b = some o := fun b o n q => s3.keep b o n (sm b o (k2 b o n q))
        cases b with
        | false =>
          dsimp only at hb ⊢
          rw [if_neg Bool.false_ne_true] at hb ⊢
          exact ⟨xs, acc, e3.stp s3, n2, k3, hx3, hA3, hb⟩
        | true =>
          dsimp only at hb ⊢
          rw [if_pos rfl] at hb ⊢
          refine ⟨F, O', ρ1, _, nE, e4.stp s3, hb, fun es hes J1 H4 s4 wk1 => ?_, fun x hx => hx.elim⟩
          obtain ⟨G1, Y1, walk1, hGR1, hY1⟩ := wk1.2 hni
          let Pw : Nat → Hp → Prop := fun j H5 => ∃ xs acc, EnvR X.K F O' H5 (L2.wipe σ vs) (wipeR ρ vs) ∧ EnvR X.K F O' H5 σ1 ρ1 ∧ (∀ b o, F.dA ≠ some b → H1 b = some o → H5 b = some o) ∧ Rf O' H4 O' H5 ∧ H5 D = some (.lst xs) ∧ DrA X.K O' H5 xs acc ∧
            foldW (step1 es (fun _ => True) ρ1) (es.drop j) acc (fun acc' => foldW step (ds.drop (i + 1)) acc' fun acc => P (.list acc))
          refine ⟨fun j m H5 => m = es.length - j ∧ j ≤ es.length ∧ Pw j H5, ⟨es.length, rfl, Nat.zero_le _, ?_⟩, fun j m H5 hW => ?_⟩
          · exact ⟨xs, acc, (e3.stp s3).stp s4, (e4.stp s3).stp s4, fun b o n q => s4.keep b o n (k3 b o n q), fun b o n q => ⟨n, q⟩, s4.keep _ _ nda hx3, hA3.stp (e3.stp s3) s4, by rw [List.drop_zero]; exact hes⟩
          · obtain ⟨rfl, hj', ys, bcc, f1, f2, f3, f4, f5, f6, f7⟩ := hW
            by_cases hlt1 : j < es.length
            · refine .inr ⟨walk1.goes j H5 hlt1 (hGR1 _ _ f4), fun H6 => Pw (j + 1) H6, fun H6 p' => ⟨es.length - (j + 1), by omega, rfl, hlt1, p'⟩, fun x1 H6 y1 => ?_⟩
              obtain ⟨sm1, d1, hd1, hdr1⟩ := hY1 _ _ j x1 H6 f4 f1.dom hlt1 (walk1.yields j H5 x1 H6 hlt1 (hGR1 _ _ f4) y1)
              have st5 : Stp X.K F O' H5 H6 := Stp.same f1 sm1
              have edrop1 : es.drop j = d1 :: es.drop (j + 1) := by
                obtain ⟨h1, h2⟩ := List.getElem?_eq_some_iff.mp hd1
                rw [List.drop_eq_getElem_cons h1, h2]
              rw [edrop1] at f7
              unfold foldW at f7
              have f7' : bindT tg1 d1 (wipeR ρ1 (slotsT tg1)) fun ρ2 => wpC Γ ifs1 ρ2 (fun c => if c = true then wpE Γ elt ρ2 (fun y => bcc.length < sizeLine ∧ foldW (step1 es (fun _ => True) ρ1) (es.drop (j + 1)) (bcc ++ [y]) (fun acc' => foldW step (ds.drop (i + 1)) acc' fun acc => P (.list acc))) nE else foldW (step1 es (fun _ => True) ρ1) (es.drop (j + 1)) bcc (fun acc' => foldW step (ds.drop (i + 1)) acc' fun acc => P (.list acc))) nE := f7
              -- what the next turn wants from a later heap
              have stay : ∀ {H8 : Hp}, Stp X.K F O' H6 H8 → EnvR X.K F O' H8 (L2.wipe σ vs) (wipeR ρ vs) ∧ EnvR X.K F O' H8 σ1 ρ1 ∧ (∀ b o, F.dA ≠ some b → H1 b = some o → H8 b = some o) ∧ Rf O' H4 O' H8 ∧ H8 D = some (.lst ys) ∧ DrA X.K O' H8 ys bcc := fun {H8} s8 =>
                ⟨(f1.stp st5).stp s8, (f2.stp st5).stp s8, fun b o n q => s8.keep b o n (sm1 b o (f3 b o n q)), fun b o n q => ⟨n, s8.keep b o (f1.nd n) (sm1 b o (f4 b o n q).2)⟩, s8.keep _ _ nda (sm1 _ _ f5), (f6.same sm1).stp (f1.stp st5) s8⟩
              refine ⟨F, O', wipeR ρ1 (slotsT tg1), d1, _, (f2.stp st5).wipe (slotsT tg1), hdr1, f7', fun ρ2 h2 σ2 on2 e5 => ?_⟩
              refine ⟨(wipe_only on2 fun _ h => h).trans wipe_idem, F, O', ρ2, _, nE, e5, h2, fun c hc' H7 s7 => ?_, fun x hx => hx.elim⟩
              cases c with
              | true =>
                dsimp only at hc' ⊢
                rw [if_pos rfl] at hc' ⊢
                refine ⟨F, O', ρ2, _, nE, e5.stp s7, hc', fun yd hyd yv H8 s8 r8 => ?_, fun x hx => hx.elim⟩
                obtain ⟨g1, g2, g3, g4, g5, g6⟩ := stay (s7.trans s8)
                have nd2 : NoSlot σ1 ρ1 D := nS1
                refine ⟨ys, g5, by rw [g6.length]; exact hyd.1, ys ++ [yv], bcc ++ [yd], g1.touch n2 oD nO0, g2.touch nd2 oD nO0, touchK g3, fun b o n q => ⟨n, ?_⟩, upd_same, touchA (g6.append (.cons (r8.n hne) .nil)), hyd.2⟩
                rw [upd_ne (fun z => n (by rw [z]; exact oD))]
                exact (g4 b o n q).2
              | false =>
                dsimp only at hc' ⊢
                rw [if_neg Bool.false_ne_true] at hc' ⊢
                obtain ⟨g1, g2, g3, g4, g5, g6⟩ := stay s7
                exact ⟨ys, bcc, g1, g2, g3, g4, g5, g6, hc'⟩
            · have ej : j = es.length := by omega
              subst ej
              refine .inl ⟨walk1.stops H5 (hGR1 _ _ f4), ?_⟩
              rw [List.drop_length] at f7
              exact ⟨ys, bcc, f1, n2, f3, f5, f6, f7⟩
      · have ei : i = ds.length := by omega
        subst ei
        refine .inl ⟨walk.stops H' (hGR _ _ (later hv)), ?_⟩
        obtain ⟨xs, acc, e2, n2, k2, hx, hA, hf⟩ := hv
        rw [List.drop_length] at hf
        have hA' : DrA X.K O H' xs acc := DrA.stay (fun _ _ _ n q => n (by rw [← hO']; exact .inl q)) (fun _ _ _ q => q) _ _ hA
        have hdr : Dr X.K O H' (.ref D) (.list acc) := .lst hx ndO hA'
        refine hP _ hf _ H' ⟨fun b o n q => k2 b o n (s1.keep b o n q), fun a ha => ?_⟩ ⟨.inl hdr, fun _ => hdr, fun _ ds' eq => ?_⟩
        · obtain ⟨h1, cells, i', cur, seed, q1, q2, q3, q4⟩ := e2.drw a ha
          exact ⟨cells, i', cur, seed, q1, q2, oO q3, q4⟩
        · cases eq
          exact ⟨D, xs, rfl, s1.free e hD, hx, by rw [hO']; exact hA⟩
  exact ⟨PE.conseq (pe_lc2 hc nd hi ok hsub1 hg ht hi1 hg1 ht1 he hs hs1) main, main⟩
/-! len(set(numbers)) -/
def tSetLen (K : PySem.W.Frag) (ta : TE) : TE := fun σ H Q => ta σ H fun x H1 => ∃ (l : Addr) (ns : List Int), x = .ref l ∧ SqL K H1 l (ns.map V.int) ∧ ns.length ≤ 4000 ∧ Q (.int (dstI ns)) H1
theorem pe_setLen {a : Expr} {ta : TE} {p p2 q pos : Pos} (hg : Gl X "len") (hm : X.mg "len" = none) (hg2 : Gl X "set") (hm2 : X.mg "set" = none) (ha : PE X a ta) (hc : X.calm = true)
    (na : starEach [a] X.env = (false, eval a X.env) :: starEach [] X.env) : PE X (.Call (.Name "len" p) [.Call (.Name "set" p2) [a] [] q] [] pos) (tSetLen X.K ta) := by
  refine ⟨fun pins s σ H Q I h => ?_⟩
  refine Call_ (ld_blt I hg hm boot_len (PyProof.Rows.callWith_builtin1 (PyProof.Rows.args_cons ?_ rfl) rfl rfl))
  refine Call_ (ld_blt I hg2 hm2 boot_set (PyProof.Rows.callWith_type1 (PyProof.Rows.args_cons (thn (ha.run pins s σ H _ I h) fun v s1 w1 => PyProof.Rows.args_nil ?_) na) na rfl))
  obtain ⟨x, H1, I1, r1, l, ns, rfl, hq, hl, q1⟩ := w1
  cases r1
  obtain ⟨its, r, pl, hz⟩ := I1.list hq
  have lenI : its.toArray.size = ns.length := by rw [List.size_toArray, ← r.length, List.length_map]
  have hInts : PyProof.Rows.IntsAre its.toArray.toList ns := by simpa using RZ.intsAre_vals r
  refine call_set_list (I1.ok.hd hc) pl.isList hInts (by rw [lenI]; unfold scanBound; omega) fun h' tk hS hk => PyProof.Rows.args_nil ?_
  rw [lenI] at hS
  have le : (PyProof.Rows.firstMet (fun i => ns.getD i 0) ns.length).length ≤ ns.length := PyProof.Rows.firstMet_length_le _ _
  obtain ⟨o, es, ep, t, ho, hex, hd, _, _, _, hf, hn⟩ := hS
  have I2 : Inv X pins σ H1 { s1 with heap := h', toks := tk } := I1.kept fun b o e => hk b o (Heap.lt_size e) e
  refine call_len_set ho hex hd hf (by rw [hn] <;> omega) ⟨.int (dstI ns), H1, I2.tok _, ⟨_, by rw [hn]; rfl⟩, q1⟩
theorem snd_rtup {a : Ex} {ea : Expr} {p p2 q pos : Pos} (hg : Gl X "tuple") (hm : X.mg "tuple" = none) (hg2 : Gl X "reversed") (hm2 : X.mg "reversed" = none) (ha : SE X Γ ec W a ea) (hc : X.calm = true) (hs : starred ea = false) :
    SE X Γ ec W (.rtup a) (.Call (.Name "tuple" p) [.Call (.Name "reversed" p2) [ea] [] q] [] pos) := by
  refine PE.conseq (pe_tupRv hc hg hm hg2 hm2 ha (star_cons hs)) fun σ H Q h => ?_
  obtain ⟨F, O, ρ, P, E, e, w, hP, hE⟩ := h
  unfold wpE at w
  refine ⟨F, O, ρ, _, E, e, w, fun d hd v H1 s1 r1 => ?_, hE⟩
  have en1 := e.stp s1
  unfold seqOf at hd
  have fin : ∀ (b : Addr) (xs : List V) (ds : List D), DrA X.K O H1 xs ds → P (.tuple ds.reverse) → ∀ q, H1 q = none → Q (.ref q) (upd H1 q (.tup xs.reverse)) := fun b xs ds hx hp q hq => by
    have sm : Same H1 (upd H1 q (.tup xs.reverse)) := fun c o hc => by
      rw [upd_ne (fun z => by rw [z, hq] at hc; cases hc)]
      exact hc
    have s2 := s1.trans (Stp.same en1 sm)
    refine hP _ hp _ _ s2 (res_dr (.tup (.inl ⟨upd_same, fun z => ?_⟩) ((DrA.reverse hx).same sm)) (.inl rfl))
    obtain ⟨o, ho⟩ := en1.dom q z
    rw [hq] at ho
    cases ho
  split at hd
  · rename_i ds
    obtain ⟨x, xs, rfl, hl, h0, _, _⟩ := lst_later en1 r1.b
    obtain ⟨b, xs, e2, h2, h3⟩ := r1.b.lst
    cases e2
    exact ⟨_, xs, rfl, .inl (by first | exact h2 | exact SqL.of h2), fin x xs ds h3 hd⟩
  · rename_i ds
    obtain ⟨x, xs, rfl, hl, h0, h1, _⟩ := tup_later en1 r1.b
    exact ⟨x, xs, rfl, .inr h0, fin x xs ds (h1 O H1 ⟨fun _ _ _ n => n, fun _ _ _ h => h⟩).2 hd⟩
  · exact hd.elim
theorem snd_setlen {a : Ex} {ea : Expr} {p p2 q pos : Pos} (hg : Gl X "len") (hm : X.mg "len" = none) (hg2 : Gl X "set") (hm2 : X.mg "set" = none) (ha : SE X Γ ec W a ea) (hc : X.calm = true) (hs : starred ea = false) :
    SE X Γ ec W (.setlen a) (.Call (.Name "len" p) [.Call (.Name "set" p2) [ea] [] q] [] pos) := by
  refine PE.conseq (pe_setLen hg hm hg2 hm2 ha hc (star_cons hs)) fun σ H Q h => ?_
  obtain ⟨F, O, ρ, P, E, e, w, hP, hE⟩ := h
  unfold wpE at w
  refine ⟨F, O, ρ, _, E, e, w, fun d hd v H1 s1 r1 => ?_, hE⟩
  unfold setlenW at hd
  split at hd
  · obtain ⟨ns, en, hd⟩ := optQ_iff hd
    obtain ⟨b, xs, rfl, h2, h3⟩ := r1.b.lst
    rw [intsOf_eq en] at h3
    rw [h3.ints] at h2
    exact ⟨b, ns, rfl, SqL.of h2, hd.1, hP _ hd.2 _ _ s1 ⟨.inl (.int _), fun _ => .int _, fun z => by simp [frs] at z⟩⟩
  · exact hd.elim
end
end DL

set_option Elab.async false
set_option linter.all false
set_option maxRecDepth 100000
set_option maxHeartbeats 8000000
namespace DL
open PySem PySem.Spec PyProof.Rows L2

/-! ### every expression of the grammar -/
structure At (G : Glb) (S : Sx) (X : Cx) : Prop where
  ok : XOk G X
  N : X.N = S.N
  sc : X.env.scope = S.sc
  fn : X.fn = S.fn
section
variable {G : Glb} {S : Sx} {X : Cx} {W : WX}
theorem At.vis (h : At G S X) {x : Str} (v : visB S.sc x = true) : Vis X.env.scope x := by
  rw [h.sc]
  unfold visB at v
  split at v
  · rename_i q; exact .inl q
  · rename_i q; exact .inr (.inl q)
  · rename_i q; exact .inr (.inr q)
  · cases v
theorem At.gl (h : At G S X) {x : Str} (v : glB S.sc x = true) : Gl X x ∧ (x == ("__debug__" : Str)) = false := by
  unfold glB at v
  split at v
  · rename_i q
    refine ⟨?_, by simpa using v⟩
    show X.env.scope.names.lookup x = _
    rw [h.sc]
    exact q
  · cases v
theorem nm_of {x : Str} (h : nmB x = true) : (x == ("__debug__" : Str)) = false ∧ (x == ("__classdict__" : Str)) = false := by
  unfold nmB at h
  rw [Bool.and_eq_true] at h
  exact ⟨by simpa using h.1, by simpa using h.2⟩
theorem At.blk (h : At G S X) (s : Shared) (H : Hp) (scope : Scope) (C : Addr) (cl : List (Str × Addr)) (fp : List Addr) : At G (blkS S scope) (X.blk s H scope (compEnvC scope cl C X.env) fp) where
  ok := ⟨h.ok.prog, h.ok.w, h.ok.K, h.ok.mg, h.ok.base, h.ok.calm, h.ok.room, h.ok.nd⟩
  N := h.N
  sc := by
    show relS scope X.env.scope = relS scope S.sc
    rw [h.sc]
  fn := rfl
theorem mg_bi (g : GOk G) (h : At G S X) (b : Bi) (hb : b ≠ .gcd) : X.mg b.nm = none := by rw [h.ok.mg]; exact g.bi b hb
theorem snd_bi {Γ : Gam} {ec : Str → Value} (g : GOk G) (h : At G S X) (b : Bi) {es : Exs} {e0 : Expr} {eas : List Expr} {p pos : Pos} (hgl : glB S.sc b.nm = true) (ha : SA X Γ ec W es (e0 :: eas)) (hst : (e0 :: eas).all (fun e => !starred e) = true) :
    SE X Γ ec W (.bi b es) (.Call (.Name b.nm p) (e0 :: eas) [] pos) := by
  obtain ⟨hg, hdb⟩ := h.gl hgl
  have hu := h.ok.hu
  have hc := h.ok.calm
  cases b with
  | len => exact snd_callB rfl cr_dLen hg (mg_bi g h .len (by decide)) PySem.boot_len ha hst (by decide) hdb
  | tuple => exact snd_callT rfl cr_dTuple hg (mg_bi g h .tuple (by decide)) PyProof.Rows.boot_tuple ha hst (by decide) hdb
  | list => exact snd_callT rfl cr_dList hg (mg_bi g h .list (by decide)) PyProof.Rows.boot_list ha hst (by decide) hdb
  | sum => exact snd_callB rfl (cr_dSum hc) hg (mg_bi g h .sum (by decide)) PyProof.Rows.boot_sum ha hst (by decide) hdb
  | any => exact snd_callB rfl (cr_dAny hc) hg (mg_bi g h .any (by decide)) PyProof.Rows.boot_any ha hst (by decide) hdb
  | all => exact snd_callB rfl (cr_dAll hc) hg (mg_bi g h .all (by decide)) PyProof.Rows.boot_all ha hst (by decide) hdb
  | abs => exact snd_callB rfl cr_dAbs hg (mg_bi g h .abs (by decide)) PyProof.Rows.boot_abs ha hst (by decide) hdb
  | min => exact snd_callB rfl (cr_dMin2 hc) hg (mg_bi g h .min (by decide)) PyProof.Rows.boot_min ha hst (by decide) hdb
  | max => exact snd_callB rfl (cr_dMax2 hc) hg (mg_bi g h .max (by decide)) PyProof.Rows.boot_max ha hst (by decide) hdb
  | int => exact snd_callT rfl cr_dInt hg (mg_bi g h .int (by decide)) PyProof.Rows.boot_int ha hst (by decide) hdb
  | str => exact snd_callT rfl cr_dStr hg (mg_bi g h .str (by decide)) PyProof.Rows.boot_str ha hst (by decide) hdb
  | gcd => exact snd_gcd hg (by rw [h.ok.mg]; exact g.gcd) ha hst hdb
  | sorted => exact snd_callB rfl (cr_dSorted hu) hg (mg_bi g h .sorted (by decide)) PyProof.Rows.boot_sorted ha hst (by decide) hdb
theorem inFs_of {Γ : Gam} {f : Str} (h : inFs Γ f = true) : f ∈ Γ.fs := by
  unfold inFs at h
  rw [List.any_eq_true] at h
  obtain ⟨x, h1, h2⟩ := h
  have e := of_decide_eq_true h2
  subst e
  exact h1
theorem lastMarks_of {op op2 : CmpOp} {b c : Expr} (h : isSet c = false) : lastMarks [op, op2] [b, c] = false := by
  show behindInMarks op2 c = false
  exact nomarkS h
/-- a test's forms -/
structure SndE (X : Cx) (Γ : Gam) (ec : Str → Value) (W : WX) (a : Ex) (e : Expr) : Prop where
  pe : SE X Γ ec W a e
  pt : tstB e = true → PT X e (tT X.K Γ ec W a)
  pw : ∀ op vs pos, e = .BoolOp op vs pos → tstB e = true → PW X e (tT X.K Γ ec W a)
theorem SndE.plain {Γ : Gam} {ec : Str → Value} {a : Ex} {e : Expr} (h : SE X Γ ec W a e) (p : plainT e = true) : SndE X Γ ec W a e :=
  ⟨h, fun _ => snt_plain h (plainTe p), fun op vs pos q => by subst q; simp [plainT] at p⟩
theorem At.tgt (h : At G S X) {t : Tg} {e : Expr} (q : mtT S t e = true) : PG X e (tG X.K t) := sndT h.N h.sc h.fn h.ok.calm h.ok.nd t e q
theorem mtT_tup {S : Sx} {tg : Tg} {t : Expr} (h : mtT S tg t = true) (ht : isTup tg = true) : ∃ elts kk tp, t = .Tuple elts kk tp := by
  cases tg with
  | n i => simp [isTup] at ht
  | t ts =>
    cases t with
    | Tuple es k p => exact ⟨es, k, p, rfl⟩
    | _ => simp [mtT] at h
theorem mtI_set {Γ : Gam} {tup : Bool} {it : Ir} {e : Expr} (h : mtI Γ S tup it e = true) : isSet e = false := by
  cases it with
  | seq a => exact mtE_set (by simpa only [mtI] using h)
  | _ =>
    cases e with
    | Set v k p => simp [mtI] at h
    | _ => rfl
theorem snc_no {Γ : Gam} {ec : Str → Value} : PTs X [] (tC X.K Γ ec W .no) := ⟨fun pins s σ H Q I h => pts_nil.run pins s σ H Q I (by
  obtain ⟨F, O, ρ, P, E, e, w, hP, hE⟩ := h
  exact hP true w H (Stp.refl e))⟩
theorem snc_so {Γ : Gam} {ec : Str → Value} {a : Ex} {c : Expr} (ht : PT X c (tT X.K Γ ec W a)) : PTs X [c] (tC X.K Γ ec W (.so a)) := ⟨fun pins s σ H Q I h => (pts_one ht).run pins s σ H Q I (by
  obtain ⟨F, O, ρ, P, E, e, w, hP, hE⟩ := h
  unfold wpC at w
  refine ⟨F, O, ρ, _, E, e, w, fun d hd => ?_, hE⟩
  obtain ⟨c, hc, q⟩ := optQ_iff hd
  exact ⟨c, hc, fun H' s' => hP c q H' s'⟩)⟩
theorem own_of {vs : List (Str × Nat)} {ts : List Nat} (h : (ts.all fun j => (vs.map (·.2)).contains j) = true) : ∀ j ∈ ts, j ∈ vs.map (·.2) := fun j hj => by
  have := List.all_eq_true.mp h j hj
  simpa using this
end
set_option maxHeartbeats 32000000 in
mutual
theorem sndE {G : Glb} (g : GOk G) : ∀ (a : Ex) (e : Expr) (X : Cx) (S : Sx) (W : WX), At G S X → Takes X W → mtE G.Γ S a e = true → SndE X G.Γ G.ec W a e
  | .v i, e, X, S, W, at_, tk, h => by
    cases e with
    | Name x p =>
      simp only [mtE, Bool.and_eq_true, decide_eq_true_eq] at h
      obtain ⟨h1, h2⟩ := nm_of h.2
      exact .plain (snd_v (by rw [at_.N]; exact h.1.1) (at_.vis h.1.2) h1 h2) rfl
    | _ => simp [mtE] at h
  | .b i, e, X, S, W, at_, tk, h => by
    cases e with
    | Name x p =>
      simp only [mtE, Bool.and_eq_true, decide_eq_true_eq] at h
      obtain ⟨h1, h2⟩ := nm_of h.2
      exact .plain (snd_b (by rw [at_.N]; exact h.1.1) (at_.vis h.1.2) h1 h2) rfl
    | _ => simp [mtE] at h
  | .int i, e, X, S, W, at_, tk, h => by
    cases e with
    | Constant c k p =>
      cases c with
      | int j => simp only [mtE, decide_eq_true_eq] at h; subst h; exact .plain snd_int rfl
      | _ => simp [mtE] at h
    | _ => simp [mtE] at h
  | .bl i, e, X, S, W, at_, tk, h => by
    cases e with
    | Constant c k p =>
      cases c with
      | bool j => simp only [mtE, beq_iff_eq] at h; subst h; exact .plain snd_bl rfl
      | _ => simp [mtE] at h
    | _ => simp [mtE] at h
  | .non, e, X, S, W, at_, tk, h => by
    cases e with
    | Constant c k p =>
      cases c with
      | none => exact .plain snd_non rfl
      | _ => simp [mtE] at h
    | _ => simp [mtE] at h
  | .str i, e, X, S, W, at_, tk, h => by
    cases e with
    | Constant c k p =>
      cases c with
      | str j => simp only [mtE, decide_eq_true_eq] at h; subst h; exact .plain snd_str rfl
      | _ => simp [mtE] at h
    | _ => simp [mtE] at h
  | .g y, e, X, S, W, at_, tk, h => by
    cases e with
    | Name x p =>
      simp only [mtE, Bool.and_eq_true, decide_eq_true_eq] at h
      obtain ⟨⟨rfl, h1⟩, h2⟩ := h
      obtain ⟨d, hk⟩ := Option.isSome_iff_exists.mp h1
      obtain ⟨hg, hdb⟩ := at_.gl h2
      obtain ⟨u, v, q1, q2, q3⟩ := g.gl x d hk
      exact .plain (snd_g hk hg (by rw [at_.ok.mg]; exact q1) q2 (by rw [at_.ok.K]; exact q3) hdb) rfl
    | _ => simp [mtE] at h
  | .bin op a b, e, X, S, W, at_, tk, h => by
    cases e with
    | BinOp ea op' eb p =>
      simp only [mtE, Bool.and_eq_true, decide_eq_true_eq] at h
      obtain ⟨⟨rfl, h1⟩, h2⟩ := h
      exact .plain (snd_bin (sndE g a ea X S W at_ tk h1).pe (sndE g b eb X S W at_ tk h2).pe) rfl
    | _ => simp [mtE] at h
  | .neg a, e, X, S, W, at_, tk, h => by
    cases e with
    | UnaryOp op ea p =>
      cases op with
      | USub => exact .plain (snd_neg (sndE g a ea X S W at_ tk (by simpa only [mtE] using h)).pe) rfl
      | _ => simp [mtE] at h
    | _ => simp [mtE] at h
  | .cmp op a b, e, X, S, W, at_, tk, h => by
    cases e with
    | Compare ea ops ebs p =>
      match ops, ebs, h with
      | [op'], [eb], h =>
        simp only [mtE, Bool.and_eq_true, decide_eq_true_eq] at h
        obtain ⟨⟨rfl, h1⟩, h2⟩ := h
        have i1 := sndE g a ea X S W at_ tk h1
        have i2 := sndE g b eb X S W at_ tk h2
        exact ⟨snd_cmp at_.ok.hu i1.pe i2.pe (nomarkS (mtE_set h2)), fun _ => snt_cmp at_.ok.hu i1.pe i2.pe (nomarkS (mtE_set h2)), fun _ _ _ q => by cases q⟩
      | [], _, h => simp [mtE] at h
      | [_], [], h => simp [mtE] at h
      | [_], _ :: _ :: _, h => simp [mtE] at h
      | _ :: _ :: _, _, h => simp [mtE] at h
    | _ => simp [mtE] at h
  | .chain op op2 a b c, e, X, S, W, at_, tk, h => by
    cases e with
    | Compare ea ops ebs p =>
      match ops, ebs, h with
      | [op', op2'], [eb, ec], h =>
        simp only [mtE, Bool.and_eq_true, decide_eq_true_eq] at h
        obtain ⟨⟨⟨⟨rfl, rfl⟩, h1⟩, h2⟩, h3⟩ := h
        have i1 := sndE g a ea X S W at_ tk h1
        have i2 := sndE g b eb X S W at_ tk h2
        have i3 := sndE g c ec X S W at_ tk h3
        exact ⟨snd_chain at_.ok.hu i1.pe i2.pe i3.pe (lastMarks_of (mtE_set h3)), fun _ => snt_chain at_.ok.hu i1.pe i2.pe i3.pe (lastMarks_of (mtE_set h3)), fun _ _ _ q => by cases q⟩
      | [], _, h => simp [mtE] at h
      | [_], _, h => simp [mtE] at h
      | [_, _], [], h => simp [mtE] at h
      | [_, _], [_], h => simp [mtE] at h
      | [_, _], _ :: _ :: _ :: _, h => simp [mtE] at h
      | _ :: _ :: _ :: _, _, h => simp [mtE] at h
    | _ => simp [mtE] at h
  | .and a b, e, X, S, W, at_, tk, h => by
    cases e with
    | BoolOp op vs p =>
      match op, vs, h with
      | .And, ea :: eb :: r, h =>
        simp only [mtE, Bool.and_eq_true] at h
        have i1 := sndE g a ea X S W at_ tk h.1
        cases r with
        | nil =>
          have i2 := sndE g b eb X S W at_ tk h.2
          have key : tstB (.BoolOp .And [ea, eb] p) = true → PW X (.BoolOp .And [ea, eb] p) (tT X.K G.Γ G.ec W (.and a b)) := fun q => by
            simp only [tstB, tstsB, Bool.and_eq_true] at q
            exact PW.conseq (pw_and (i1.pt q.1) (pw_and1 (i2.pt q.2.1))) fun σ H Q z => tT_and z
          exact ⟨snd_and i1.pe (snd_one i2.pe), fun q => (key q).pt, fun op' vs' p' q1 q2 => key q2⟩
        | cons c r' =>
          have i2 := sndE g b (.BoolOp .And (eb :: c :: r') p) X S W at_ tk h.2
          have key : tstB (.BoolOp .And (ea :: eb :: c :: r') p) = true → PW X (.BoolOp .And (ea :: eb :: c :: r') p) (tT X.K G.Γ G.ec W (.and a b)) := fun q => by
            have q' := q
            simp only [tstB, tstsB, Bool.and_eq_true] at q
            exact PW.conseq (pw_and (i1.pt q.1) (i2.pw _ _ _ rfl (by simp only [tstB, tstsB, Bool.and_eq_true]; exact q.2))) fun σ H Q z => tT_and z
          exact ⟨snd_and i1.pe i2.pe, fun q => (key q).pt, fun op' vs' p' q1 q2 => key q2⟩
      | .And, [], h => simp [mtE] at h
      | .And, [_], h => simp [mtE] at h
      | .Or, _, h => simp [mtE] at h
    | _ => simp [mtE] at h
  | .or a b, e, X, S, W, at_, tk, h => by
    cases e with
    | BoolOp op vs p =>
      match op, vs, h with
      | .Or, ea :: eb :: r, h =>
        simp only [mtE, Bool.and_eq_true] at h
        have i1 := sndE g a ea X S W at_ tk h.1
        cases r with
        | nil =>
          have i2 := sndE g b eb X S W at_ tk h.2
          have key : tstB (.BoolOp .Or [ea, eb] p) = true → PW X (.BoolOp .Or [ea, eb] p) (tT X.K G.Γ G.ec W (.or a b)) := fun q => by
            simp only [tstB, tstsB, Bool.and_eq_true] at q
            exact PW.conseq (pw_or (i1.pt q.1) (pw_or1 (i2.pt q.2.1))) fun σ H Q z => tT_or z
          exact ⟨snd_or i1.pe (snd_one i2.pe), fun q => (key q).pt, fun op' vs' p' q1 q2 => key q2⟩
        | cons c r' =>
          have i2 := sndE g b (.BoolOp .Or (eb :: c :: r') p) X S W at_ tk h.2
          have key : tstB (.BoolOp .Or (ea :: eb :: c :: r') p) = true → PW X (.BoolOp .Or (ea :: eb :: c :: r') p) (tT X.K G.Γ G.ec W (.or a b)) := fun q => by
            have q' := q
            simp only [tstB, tstsB, Bool.and_eq_true] at q
            exact PW.conseq (pw_or (i1.pt q.1) (i2.pw _ _ _ rfl (by simp only [tstB, tstsB, Bool.and_eq_true]; exact q.2))) fun σ H Q z => tT_or z
          exact ⟨snd_or i1.pe i2.pe, fun q => (key q).pt, fun op' vs' p' q1 q2 => key q2⟩
      | .Or, [], h => simp [mtE] at h
      | .Or, [_], h => simp [mtE] at h
      | .And, _, h => simp [mtE] at h
    | _ => simp [mtE] at h
  | .not a, e, X, S, W, at_, tk, h => by
    cases e with
    | UnaryOp op ea p =>
      cases op with
      | Not =>
        have i1 := sndE g a ea X S W at_ tk (by simpa only [mtE] using h)
        exact ⟨snd_not i1.pe, fun q => snt_not (i1.pt (by simpa only [tstB] using q)), fun _ _ _ q => by cases q⟩
      | _ => simp [mtE] at h
    | _ => simp [mtE] at h
  | .ite t a b, e, X, S, W, at_, tk, h => by
    cases e with
    | IfExp et ea eb p =>
      simp only [mtE, Bool.and_eq_true] at h
      obtain ⟨⟨⟨h1, h2⟩, h3⟩, h4⟩ := h
      exact ⟨snd_ite ((sndE g t et X S W at_ tk h1).pt h2) (sndE g a ea X S W at_ tk h3).pe (sndE g b eb X S W at_ tk h4).pe, fun q => by simp [tstB] at q, fun _ _ _ q => by cases q⟩
    | _ => simp [mtE] at h
  | .tup es, e, X, S, W, at_, tk, h => by
    cases e with
    | Tuple as k p =>
      simp only [mtE, Bool.and_eq_true, decide_eq_true_eq] at h
      exact .plain (snd_tup (sndX g es as X S W at_ tk h.1.1.1) h.1.1.2 h.2) rfl
    | _ => simp [mtE] at h
  | .lst es, e, X, S, W, at_, tk, h => by
    cases e with
    | List as p =>
      simp only [mtE, Bool.and_eq_true, decide_eq_true_eq] at h
      exact .plain (snd_lst (sndX g es as X S W at_ tk h.1.1.1) h.1.1.2 h.2) rfl
    | _ => simp [mtE] at h
  | .sub a i, e, X, S, W, at_, tk, h => by
    cases e with
    | Subscript ea ei p =>
      simp only [mtE, Bool.and_eq_true] at h
      exact .plain (snd_sub (sndE g a ea X S W at_ tk h.1).pe (sndE g i ei X S W at_ tk h.2).pe (plainIx (mtE_slice h.2))) rfl
    | _ => simp [mtE] at h
  | .cut a lo hi, e, X, S, W, at_, tk, h => by
    cases e with
    | Subscript ea ei p =>
      cases ei with
      | Slice l u st p2 =>
        cases st with
        | none =>
          simp only [mtE, Bool.and_eq_true] at h
          exact .plain (snd_cut (sndE g a ea X S W at_ tk h.1.1).pe (sndO g lo l X S W at_ tk h.1.2) (sndO g hi u X S W at_ tk h.2)) rfl
        | some _ => simp [mtE] at h
      | _ => simp [mtE] at h
    | _ => simp [mtE] at h
  | .bi b es, e, X, S, W, at_, tk, h => by
    cases e with
    | Call f as kw p =>
      cases f with
      | Name x p2 =>
        cases kw with
        | nil =>
          simp only [mtE, Bool.and_eq_true, decide_eq_true_eq] at h
          obtain ⟨⟨⟨⟨rfl, h2⟩, h3⟩, h4⟩, h5⟩ := h
          obtain ⟨s1, s2⟩ := mtX_star h3
          cases as with
          | nil => rw [List.length_nil] at s2; omega
          | cons e0 eas => exact .plain (snd_bi g at_ b h2 (sndX g es _ X S W at_ tk h3) s1) rfl
        | cons _ _ => simp [mtE] at h
      | _ => simp [mtE] at h
    | _ => simp [mtE] at h
  | .isi a T, e, X, S, W, at_, tk, h => by
    cases e with
    | Call f as kw p =>
      cases f with
      | Name x p2 =>
        cases as with
        | nil => simp [mtE] at h
        | cons ea r =>
          cases r with
          | nil => simp [mtE] at h
          | cons yb r2 =>
            cases yb with
            | Name y p3 =>
              cases r2 with
              | cons _ _ => simp [mtE] at h
              | nil =>
                cases kw with
                | cons _ _ => simp [mtE] at h
                | nil =>
                  simp only [mtE, Bool.and_eq_true, decide_eq_true_eq, Bool.or_eq_true, beq_iff_eq] at h
                  obtain ⟨⟨⟨⟨rfl, h2⟩, h3⟩, h4⟩, h5⟩ := h
                  obtain ⟨hg, _⟩ := at_.gl h2
                  obtain ⟨hgy, hdy⟩ := at_.gl h4
                  have i1 := sndE g a ea X S W at_ tk h3
                  have hm : X.mg "isinstance" = none := by rw [at_.ok.mg]; exact g.isi
                  have hm2 : ∀ b : Bi, b ≠ .gcd → X.mg b.nm = none := mg_bi g at_
                  rcases h5 with (((⟨rfl, rfl⟩ | ⟨rfl, rfl⟩) | ⟨rfl, rfl⟩) | ⟨rfl, rfl⟩) | ⟨rfl, rfl⟩
                  · exact .plain (snd_isi (by simp) i1.pe (mtE_star h3) hg hm hgy (hm2 .int (by decide)) PyProof.Rows.boot_int (by decide) hdy) rfl
                  · exact .plain (snd_isi (by simp) i1.pe (mtE_star h3) hg hm hgy (by rw [at_.ok.mg]; exact g.bool) PyProof.Rows.boot_bool (by decide) hdy) rfl
                  · exact .plain (snd_isi (by simp) i1.pe (mtE_star h3) hg hm hgy (hm2 .str (by decide)) PyProof.Rows.boot_str (by decide) hdy) rfl
                  · exact .plain (snd_isi (by simp) i1.pe (mtE_star h3) hg hm hgy (hm2 .tuple (by decide)) PyProof.Rows.boot_tuple (by decide) hdy) rfl
                  · exact .plain (snd_isi (by simp) i1.pe (mtE_star h3) hg hm hgy (hm2 .list (by decide)) PyProof.Rows.boot_list (by decide) hdy) rfl
            | _ => simp [mtE] at h
      | _ => simp [mtE] at h
    | _ => simp [mtE] at h
  | .call f es, e, X, S, W, at_, tk, h => by
    cases e with
    | Call fx as kw p =>
      cases fx with
      | Name x p2 =>
        cases kw with
        | nil =>
          simp only [mtE, Bool.and_eq_true, decide_eq_true_eq] at h
          obtain ⟨⟨⟨⟨⟨rfl, h1⟩, h2⟩, h3⟩, h4⟩, h5⟩ := h
          obtain ⟨s1, s2⟩ := mtX_star h3
          obtain ⟨hg, hdb⟩ := at_.gl h2
          cases as with
          | nil => rw [List.length_nil] at s2; omega
          | cons e0 eas =>
            have ia := sndX g es _ X S W at_ tk h3
            obtain ⟨fa, fd, ps, q1, q2, q3, q4⟩ := (g.fn x (inFs_of h1)).ex
            obtain ⟨ok, _, _, _⟩ := at_
            obtain ⟨o1, o2, o3, o4, o5, o6, o7, o8⟩ := ok
            rw [← o4] at q1
            rw [← o3] at q2 q3 q4
            rw [← o1, ← o2, ← o4, ← o5] at q4
            exact .plain (snd_call tk q4 o7 hg q1 q2 q3 ia h4 s1 hdb) rfl
        | cons _ _ => simp [mtE] at h
      | _ => simp [mtE] at h
    | _ => simp [mtE] at h
  | .comp own elt tg it ifs, e, X, S, W, at_, tk, h => by
    cases e with
    | ListComp x gs scope p =>
      cases gs with
      | nil => simp [mtE] at h
      | cons g0 gr =>
        cases gr with
        | cons _ _ => obtain ⟨t, i, cs, n⟩ := g0; simp [mtE] at h
        | nil =>
          obtain ⟨t, i, cs, n⟩ := g0
          simp only [mtE, Bool.and_eq_true, decide_eq_true_eq] at h
          obtain ⟨⟨⟨⟨⟨⟨⟨rfl, h1⟩, h2⟩, h3⟩, h4⟩, h5⟩, h6⟩, h7⟩ := h
          have h1' : blkC X.N X.env.scope scope own = true := by rw [at_.N, at_.sc]; exact h1
          exact .plain (snd_comp at_.ok.calm at_.ok.nd (sndI g it i t X S W at_ tk tg (blkS S scope) h3 h4) (blkOk_by h1') (own_of h2) h6
            (fun s H C cl fp => (at_.blk s H scope C cl fp).tgt h3)
            (fun s H C cl fp => sndC g ifs cs _ _ _ (at_.blk s H scope C cl fp) takes0 h7)
            (fun s H C cl fp => (sndE g elt x _ _ _ (at_.blk s H scope C cl fp) takes0 h5).pe)
            (foldS (mtI_set h4))).1 rfl
    | _ => simp [mtE] at h
  | .comp2 own elt tg it ifs tg1 it1 ifs1, e, X, S, W, at_, tk, h => by
    cases e with
    | ListComp x gs scope p =>
      match gs, h with
      | [], h => simp [mtE] at h
      | [⟨t, i, cs, n⟩], h => simp [mtE] at h
      | _ :: _ :: _ :: _, h => simp [mtE] at h
      | [⟨t, i, cs, n⟩, ⟨t1, i1, cs1, n1⟩], h =>
        simp only [mtE, Bool.and_eq_true, decide_eq_true_eq] at h
        obtain ⟨⟨⟨⟨⟨⟨⟨⟨⟨⟨⟨⟨⟨rfl, rfl⟩, h1⟩, h2⟩, h3⟩, h4⟩, h5⟩, h6⟩, h7⟩, h8⟩, h9⟩, h10⟩, h11⟩, h12⟩ := h
        have h1' : blkC X.N X.env.scope scope own = true := by rw [at_.N, at_.sc]; exact h1
        exact .plain (snd_comp2 at_.ok.calm at_.ok.nd (sndI g it i t X S W at_ tk tg (blkS S scope) h4 h5) (blkOk_by h1') (own_of h2) (own_of h3) h12 h9
          (fun s H C cl fp => (at_.blk s H scope C cl fp).tgt h4)
          (fun s H C cl fp => sndC g ifs cs _ _ _ (at_.blk s H scope C cl fp) takes0 h6)
          (fun s H C cl fp => sndI g it1 i1 t1 _ (blkS S scope) _ (at_.blk s H scope C cl fp) takes0 tg1 (blkS S scope) h7 h8)
          (fun s H C cl fp => (at_.blk s H scope C cl fp).tgt h7)
          (fun s H C cl fp => sndC g ifs1 cs1 _ _ _ (at_.blk s H scope C cl fp) takes0 h10)
          (fun s H C cl fp => (sndE g elt x _ _ _ (at_.blk s H scope C cl fp) takes0 h11).pe)
          (foldS (mtI_set h5)) (fun env => foldS (mtI_set h8))).1 rfl
    | _ => simp [mtE] at h
  | .setlen a, e, X, S, W, at_, tk, h => by
    cases e with
    | Call f as kw p =>
      match f, as, kw, h with
      | .Name x p2, [.Call (.Name y p3) [ea] [] p4], [], h =>
        simp only [mtE, Bool.and_eq_true, decide_eq_true_eq] at h
        obtain ⟨⟨⟨⟨rfl, rfl⟩, h3⟩, h4⟩, h5⟩ := h
        exact .plain (snd_setlen (at_.gl h3).1 (mg_bi g at_ .len (by decide)) (at_.gl h4).1 (by rw [at_.ok.mg]; exact g.set) (sndE g a ea X S W at_ tk h5).pe at_.ok.calm (mtE_star h5)) rfl
    | _ => simp [mtE] at h
  | .rtup a, e, X, S, W, at_, tk, h => by
    cases e with
    | Call f as kw p =>
      match f, as, kw, h with
      | .Name x p2, [.Call (.Name y p3) [ea] [] p4], [], h =>
        simp only [mtE, Bool.and_eq_true, decide_eq_true_eq] at h
        obtain ⟨⟨⟨⟨rfl, rfl⟩, h3⟩, h4⟩, h5⟩ := h
        exact .plain (snd_rtup (at_.gl h3).1 (mg_bi g at_ .tuple (by decide)) (at_.gl h4).1 (by rw [at_.ok.mg]; exact g.rev) (sndE g a ea X S W at_ tk h5).pe at_.ok.calm (mtE_star h5)) rfl
    | _ => simp [mtE] at h
  | .dget i k d, e, X, S, W, at_, tk, h => by
    cases e with
    | Call f as kw p =>
      match f, as, kw, h with
      | .Attribute (.Name x p2) m ap, [ek, ed], [], h =>
        simp only [mtE, Bool.and_eq_true, decide_eq_true_eq] at h
        obtain ⟨⟨⟨⟨⟨⟨⟨⟨rfl, h2⟩, h3⟩, h4⟩, h5⟩, h6⟩, h7⟩, h8⟩, h9⟩ := h
        obtain ⟨n1, n2⟩ := nm_of h4
        have s5 := mtE_star h5
        have s6 := mtE_star h6
        refine .plain (snd_dget at_.ok.hu (by rw [at_.N]; exact h2) (at_.vis h3) n1 n2 (sndE g k ek X S W at_ tk h5).pe (sndE g d ed X S W at_ tk h6).pe h7 h8 ⟨rfl, ?_, h9, ?_⟩) rfl
        · rw [star_cons s5, star_cons s6]; rfl
        · rw [star_cons s5, star_cons s6]; rfl
    | _ => simp [mtE] at h
  | .dsort it i, e, X, S, W, at_, tk, h => by
    cases e with
    | Call f as kw p =>
      match f, as, kw, h with
      | .Name f p2, [.Call (.Attribute (.Name x p3) m ap) [] [] p4], [], h =>
        simp only [mtE, Bool.and_eq_true, decide_eq_true_eq] at h
        obtain ⟨⟨⟨⟨⟨⟨rfl, h2⟩, rfl⟩, h4⟩, h5⟩, h6⟩, h7⟩ := h
        obtain ⟨n1, n2⟩ := nm_of h6
        exact .plain (snd_dsort it at_.ok.hu at_.ok.calm (at_.gl h2).1 (mg_bi g at_ .sorted (by decide)) (by rw [at_.N]; exact h4) (at_.vis h5) n1 n2 h7 (by cases it <;> rfl)) rfl
    | _ => simp [mtE] at h
  | .dead, e, X, S, W, at_, tk, h => by
    refine ⟨⟨fun pins s σ H Q I q => ?_⟩, fun _ => ⟨fun pins s σ H Q I q => ?_⟩, fun op vs pos _ _ => ⟨fun _ pins s σ H Q I q => ?_⟩⟩
    all_goals
      obtain ⟨F, O, ρ, P, E, en, w, hP, hE⟩ := q
      unfold wpE at w
      exact w.elim
theorem sndX {G : Glb} (g : GOk G) : ∀ (es : Exs) (as : List Expr) (X : Cx) (S : Sx) (W : WX), At G S X → Takes X W → mtX G.Γ S es as = true → SA X G.Γ G.ec W es as
  | .nil, [], X, S, W, at_, tk, h => sna_nil
  | .nil, _ :: _, X, S, W, at_, tk, h => by simp [mtX] at h
  | .cons a es, [], X, S, W, at_, tk, h => by simp [mtX] at h
  | .cons a es, e :: as, X, S, W, at_, tk, h => by
    simp only [mtX, Bool.and_eq_true] at h
    exact sna_cons (sndE g a e X S W at_ tk h.1).pe (sndX g es as X S W at_ tk h.2) (star_cons (mtE_star h.1))
  | .dr i es, [], X, S, W, at_, tk, h => by simp [mtX] at h
  | .dr i es, e :: as, X, S, W, at_, tk, h => by
    cases e with
    | Name x p =>
      simp only [mtX, Bool.and_eq_true, decide_eq_true_eq] at h
      obtain ⟨h1, h2⟩ := nm_of h.1.2
      exact sna_dr (by rw [at_.N]; exact h.1.1.1) (at_.vis h.1.1.2) h1 h2 (sndX g es as X S W at_ tk h.2)
    | _ => simp [mtX] at h
theorem sndO {G : Glb} (g : GOk G) : ∀ (a : Eo) (e : Option Expr) (X : Cx) (S : Sx) (W : WX), At G S X → Takes X W → mtO G.Γ S a e = true → PO X e (tO X.K G.Γ G.ec W a)
  | .no, none, X, S, W, at_, tk, h => sno_no
  | .no, some _, X, S, W, at_, tk, h => by simp [mtO] at h
  | .so a, none, X, S, W, at_, tk, h => by simp [mtO] at h
  | .so a, some e, X, S, W, at_, tk, h => sno_so (sndE g a e X S W at_ tk (by simpa only [mtO] using h)).pe
theorem sndC {G : Glb} (g : GOk G) : ∀ (a : Eo) (es : List Expr) (X : Cx) (S : Sx) (W : WX), At G S X → Takes X W → mtC G.Γ S a es = true → PTs X es (tC X.K G.Γ G.ec W a)
  | .no, [], X, S, W, at_, tk, h => snc_no
  | .no, _ :: _, X, S, W, at_, tk, h => by simp [mtC] at h
  | .so a, [], X, S, W, at_, tk, h => by simp [mtC] at h
  | .so a, [e], X, S, W, at_, tk, h => by
    simp only [mtC, Bool.and_eq_true] at h
    exact snc_so ((sndE g a e X S W at_ tk h.1).pt h.2)
  | .so a, _ :: _ :: _, X, S, W, at_, tk, h => by simp [mtC] at h
theorem sndI {G : Glb} (g : GOk G) : ∀ (it : Ir) (i t : Expr) (X : Cx) (S : Sx) (W : WX), At G S X → Takes X W → ∀ (tg : Tg) (S' : Sx), mtT S' tg t = true → mtI G.Γ S (isTup tg) it i = true → PI X t i (tI X.K G.Γ G.ec W it)
  | .seq a, i, t, X, S, W, at_, tk, tg, S', ht, h => sni_seq (sndE g a i X S W at_ tk (by simpa only [mtI] using h)).pe
  | .rng es, i, t, X, S, W, at_, tk, tg, S', ht, h => by
    cases i with
    | Call f as kw p =>
      cases f with
      | Name x p2 =>
        cases kw with
        | cons _ _ => simp [mtI] at h
        | nil =>
          simp only [mtI, Bool.and_eq_true, decide_eq_true_eq, Bool.or_eq_true, beq_iff_eq] at h
          obtain ⟨⟨⟨⟨rfl, h2⟩, h3⟩, h4⟩, h5⟩ := h
          obtain ⟨hg, _⟩ := at_.gl h2
          obtain ⟨s1, s2⟩ := mtX_star h3
          have ia := sndX g es as X S W at_ tk h3
          have hm : X.mg "range" = none := by rw [at_.ok.mg]; exact g.rng
          match as, s1, s2, ia with
          | [], s1, s2, ia => rw [List.length_nil] at s2; omega
          | [a], s1, s2, ia => exact sni_rng1 hg hm ia (by simpa using s1) s2.symm
          | [a, b], s1, s2, ia => exact sni_rng2 hg hm ia (by simp at s1; exact s1.1) (by simp at s1; exact s1.2) s2.symm
          | _ :: _ :: _ :: _, s1, s2, ia => simp at s2; omega
      | _ => simp [mtI] at h
    | _ => simp [mtI] at h
  | .enum a, i, t, X, S, W, at_, tk, tg, S', ht, h => by
    cases i with
    | Call f as kw p =>
      cases f with
      | Name x p2 =>
        match as, kw, h with
        | [], _, h => simp [mtI] at h
        | _ :: _ :: _, _, h => simp [mtI] at h
        | [_], _ :: _, h => simp [mtI] at h
        | [ea], [], h =>
          simp only [mtI, Bool.and_eq_true, decide_eq_true_eq] at h
          obtain ⟨⟨⟨rfl, h2⟩, h3⟩, h4⟩ := h
          obtain ⟨hg, _⟩ := at_.gl h2
          obtain ⟨elts, kk, tp, rfl⟩ := mtT_tup ht h4
          exact sni_enum hg (by rw [at_.ok.mg]; exact g.enm) (sndE g a ea X S W at_ tk h3).pe (mtE_star h3)
      | _ => simp [mtI] at h
    | _ => simp [mtI] at h
  | .zip a b, i, t, X, S, W, at_, tk, tg, S', ht, h => by
    cases i with
    | Call f as kw p =>
      cases f with
      | Name x p2 =>
        match as, kw, h with
        | [], _, h => simp [mtI] at h
        | [_], _, h => simp [mtI] at h
        | _ :: _ :: _ :: _, _, h => simp [mtI] at h
        | [_, _], _ :: _, h => simp [mtI] at h
        | [ea, eb], [], h =>
          simp only [mtI, Bool.and_eq_true, decide_eq_true_eq] at h
          obtain ⟨⟨⟨⟨rfl, h2⟩, h3⟩, h4⟩, h5⟩ := h
          obtain ⟨hg, _⟩ := at_.gl h2
          obtain ⟨elts, kk, tp, rfl⟩ := mtT_tup ht h5
          exact sni_zip hg (by rw [at_.ok.mg]; exact g.zip) (sndE g a ea X S W at_ tk h3).pe (sndE g b eb X S W at_ tk h4).pe (mtE_star h3) (mtE_star h4)
      | _ => simp [mtI] at h
    | _ => simp [mtI] at h
end
end DL

set_option Elab.async false
set_option linter.all false
set_option maxRecDepth 100000
set_option maxHeartbeats 4000000
namespace DL
open PySem PySem.Spec PyProof.Rows L2
open PySem.SeqAt (dataPlace remove_list_data)

/-! ### statements -/
mutual
inductive St where
  | set (i : Nat) (e : Ex)
  | own (i : Nat) (e : Ex)
  | unp (ts : Tgs) (e : Ex)
  | frz (i : Nat)
  | aug (i : Nat) (op : Operator) (e : Ex)
  | put (i : Nat) (ix e : Ex)
  | augp (i : Nat) (ix : Ex) (op : Operator) (e : Ex)
  | app (i : Nat) (e : Ex)
  | ext (i : Nat) (e : Ex)
  | expr (e : Ex)
  | ret (e : Ex)
  | ife (t : Ex) (a b : Sts)
  | loop (tg : Tg) (it : Ir) (body : Sts)
  | whl (t : Ex) (body : Sts)
  | rais (x : Str)
  | try1 (body : Sts) (x : Str) (c : Ex)
  | brk | cnt | pss
  | retn
  | dnew (i : Nat)
  | dput (i : Nat) (k e : Ex)
  | ins (i : Nat) (ix e : Ex)
  | rem (i : Nat) (e : Ex)
  | loopb (tg : Tg) (i : Nat) (body : Sts)
  | dead
inductive Sts where
  | nil
  | cons (s : St) (ss : Sts)
end
/-- what is wanted behind a statement -/
structure Kt where
  nx : Rho → Prop
  rt : D → Prop
  bk : Rho → Prop
  ct : Rho → Prop
  er : Str → Rho → Prop
def forW (body : D → Rho → (Rho → Prop) → Prop) : List D → Rho → (Rho → Prop) → Prop
  | [], ρ, Q => Q ρ
  | d :: ds, ρ, Q => body d ρ fun ρ' => forW body ds ρ' Q
def augF : Operator → D → D → (D → Prop) → Prop
  | .Add, .int i, .int j, P => P (.int (i + j))
  | .Sub, .int i, .int j, P => P (.int (i - j))
  | .Mult, .int i, .int j, P => dMulOk i j ∧ P (.int (i * j))
  | _, _, _, _ => False
def constD : Ex → Option D
  | .int i => some (.int i)
  | .bl b => some (.bool b)
  | .non => some .none
  | .str s => some (.str s)
  | _ => none
/-- a list that the frame owns -/
def owL (ρ : Rho) (i : Nat) (P : List D → Prop) : Prop := match ρ[i]? with
  | some (some (.ow (.list ds))) => P ds
  | _ => False
def odL (ρ : Rho) (i : Nat) (P : List (NestedKey × D) → Prop) : Prop := match ρ[i]? with
  | some (some (.od kvs)) => P kvs
  | _ => False
/-- the walked list is still there -/
def lkAt (ρ : Rho) (i : Nat) (a : Addr) (xs : List V) (ds : List D) : Prop := ρ[i]? = some (some (.lk a xs ds))
def intQ (d : D) (P : Int → Prop) : Prop := match d with
  | .int z => P z
  | _ => False
def lstQ (d : D) (P : List D → Prop) : Prop := match d with
  | .list ds => P ds
  | _ => False
mutual
def wpS (Γ : Gam) : St → Rho → Kt → Prop
  | .set i e, ρ, k => wpE Γ e ρ (fun d => k.nx (ρ.set i (some (.fz d)))) fun x => k.er x ρ
  | .own i e, ρ, k => wpE Γ e ρ (fun d => lstQ d fun ds => k.nx (ρ.set i (some (.ow (.list ds))))) fun x => k.er x ρ
  | .unp ts e, ρ, k => wpE Γ e ρ (fun d => bindT (.t ts) d ρ k.nx) fun x => k.er x ρ
  | .frz i, ρ, k => match ρ[i]? with
    | some (some (.ow d)) => k.nx (ρ.set i (some (.fz d)))
    | _ => False
  | .aug i op e, ρ, k => match ρ[i]? with
    | some (some (.fz x)) => wpE Γ e ρ (fun y => augF op x y fun r => k.nx (ρ.set i (some (.fz r)))) fun x => k.er x ρ
    | _ => False
  | .put i ix e, ρ, k => wpE Γ e ρ (fun y => owL ρ i fun ds => wpE Γ ix ρ (fun z => intQ z fun z => optQ (ixN ds.length z) fun j => k.nx (ρ.set i (some (.ow (.list (ds.set j y)))))) fun x => k.er x ρ) fun x => k.er x ρ
  | .augp i ix op e, ρ, k => owL ρ i fun ds => wpE Γ ix ρ (fun z => intQ z fun z => optQ (atI ds z) fun x => wpE Γ e ρ (fun y => augF op x y fun r => optQ (ixN ds.length z) fun j => k.nx (ρ.set i (some (.ow (.list (ds.set j r)))))) fun x => k.er x ρ) fun x => k.er x ρ
  | .app i e, ρ, k => owL ρ i fun ds => wpE Γ e ρ (fun y => ds.length < sizeLine ∧ k.nx (ρ.set i (some (.ow (.list (ds ++ [y])))))) fun x => k.er x ρ
  | .ext i e, ρ, k => owL ρ i fun ds => wpE Γ e ρ (fun y => lstQ y fun es => ds.length + es.length ≤ sizeLine ∧ k.nx (ρ.set i (some (.ow (.list (ds ++ es)))))) fun x => k.er x ρ
  | .expr e, ρ, k => wpE Γ e ρ (fun _ => k.nx ρ) fun x => k.er x ρ
  | .ret e, ρ, k => wpE Γ e ρ k.rt fun x => k.er x ρ
  | .ife t a b, ρ, k => wpE Γ t ρ (fun d => optQ (truD d) fun c => if c = true then wpSs Γ a ρ k else wpSs Γ b ρ k) fun x => k.er x ρ
  | .loop tg it body, ρ, k => wpI Γ it ρ (fun ds => forW (fun d ρ1 kk => bindT tg d ρ1 fun ρ2 => wpSs Γ body ρ2 { k with nx := kk, ct := kk, bk := k.nx }) ds ρ k.nx) fun x => k.er x ρ
  | .whl t body, ρ, k => ∃ I : Nat → Rho → Prop, (∃ m, I m ρ) ∧ ∀ m ρ', I m ρ' →
      wpE Γ t ρ' (fun d => optQ (truD d) fun c => if c = true then wpSs Γ body ρ' { k with nx := fun ρ2 => ∃ m', m' < m ∧ I m' ρ2, ct := fun ρ2 => ∃ m', m' < m ∧ I m' ρ2, bk := k.nx } else k.nx ρ') fun x => k.er x ρ'
  | .rais x, ρ, k => k.er x ρ
  | .try1 body x c, ρ, k => wpSs Γ body ρ { k with er := fun y ρ' => y ∈ Γ.exs ∧ if y = x then optQ (constD c) k.rt else k.er y ρ' }
  | .brk, ρ, k => k.bk ρ
  | .cnt, ρ, k => k.ct ρ
  | .pss, ρ, k => k.nx ρ
  | .retn, ρ, k => k.rt .none
  | .dnew i, ρ, k => k.nx (ρ.set i (some (.od [])))
  | .dput i ke e, ρ, k => wpE Γ e ρ (fun y => odL ρ i fun kvs => wpE Γ ke ρ (fun z => optQ (keyT z) fun kk => kvs.length < sizeLine ∧ k.nx (ρ.set i (some (.od (putV kvs kk y))))) fun x => k.er x ρ) fun x => k.er x ρ
  | .ins i ix e, ρ, k => owL ρ i fun ds => wpE Γ ix ρ (fun z => intQ z fun z => wpE Γ e ρ (fun y => ds.length < sizeLine ∧ 0 ≤ z ∧ z < 2 ^ 63 ∧ k.nx (ρ.set i (some (.ow (.list (ds.take z.toNat ++ [y] ++ ds.drop z.toNat)))))) fun x => k.er x ρ) fun x => k.er x ρ
  | .rem i e, ρ, k => owL ρ i fun ds => wpE Γ e ρ (fun y => shp y ∧ shp (.list ds) ∧ optQ (dataPlace ds y) fun j => k.nx (ρ.set i (some (.ow (.list (ds.eraseIdx j)))))) fun x => k.er x ρ
  | .loopb tg i body, ρ, k => owL ρ i fun ds => ∀ (a : Addr) (xs : List V), forW (fun d ρ1 kk => lkAt ρ1 i a xs ds ∧ bindT tg d ρ1 fun ρ2 => wpSs Γ body ρ2 { k with nx := kk, ct := kk, bk := fun ρ' => lkAt ρ' i a xs ds ∧ k.nx (ρ'.set i (some (.ow (.list ds)))) }) ds (ρ.set i (some (.lk a xs ds))) fun ρ' => lkAt ρ' i a xs ds ∧ k.nx (ρ'.set i (some (.ow (.list ds))))
  | .dead, ρ, k => False
def wpSs (Γ : Gam) : Sts → Rho → Kt → Prop
  | .nil, ρ, k => k.nx ρ
  | .cons s ss, ρ, k => wpS Γ s ρ { k with nx := fun ρ' => wpSs Γ ss ρ' k }
end

/-! ### what the grammar must be -/
def slotB (S : Sx) (i : Nat) : Expr → Bool
  | .Name x _ => decide (S.N[i]? = some x) && locB S x && nmB x
  | _ => false
/-- how name = e is stored -/
def asgB (S : Sx) (x : Str) (py : Pos) (v : Expr) : Bool := match v with
  | .ListComp _ _ scope p2 => (match S.sc.names.lookup x with
    | some .local => py.line == p2.line && !(scope.names.any fun (n, k) => n == x && (k == .local || k == .cell))
    | some .cell => true
    | _ => false)
  | e => !isCmp e
def nmsOf : List Expr → Option (List (Str × Pos))
  | [] => some []
  | .Name x p :: r => (nmsOf r).map ((x, p) :: ·)
  | _ => none
def tgsNames : Tgs → Option (List Nat)
  | .nil => some []
  | .cons (.n i) r => (tgsNames r).map (i :: ·)
  | _ => none
/-- the names that are stored without a tuple -/
def swLine (ts : List Expr) : Nat := (ts.head?.map (·.pos.line)).getD 0
def swNames (sc : Scope) (ts : List Expr) : List Str := ts.filterMap fun
  | .Name id pos => if sc.names.lookup id == some .local && pos.line == swLine ts then some id else none
  | _ => none
def isStar : Expr → Bool
  | .Starred .. => true
  | _ => false
/-- a, b = x, y: both plain local names on one line, so that no tuple is made -/
def swap2 (S : Sx) : Tgs → List Expr → Ex → Expr → Bool
  | .cons (.n i) (.cons (.n j) .nil), [.Name x px, .Name y py], .tup (.cons _ (.cons _ .nil)), .Tuple [a, b] _ _ =>
    decide (S.sc.names.lookup x = some .local) && decide (S.sc.names.lookup y = some .local) && decide (swNames S.sc [.Name x px, .Name y py] = [x, y]) && decide ([x, y].eraseDups.length = 2) && decide (i ≠ j) && !starred a && !starred b && !([a, b].all (foldedForSure 8)) && !([a, b].all (constantsAlone 8))
  | _, _, _, _ => false
/-- the display on the right is stored as any tuple -/
def noswap (S : Sx) (es : List Expr) : Expr → Bool
  | .Tuple vs _ _ => !(es.length == 2 || es.length == 3) || vs.length != es.length || vs.any isStar || ((swNames S.sc es).length != es.length || (swNames S.sc es).eraseDups.length != (swNames S.sc es).length) || vs.all (foldedForSure 8)
  | e => true
/-- raise X('..') -/
def raisOf : Option Expr → Option Expr → Option Str
  | some (.Call (.Name x _) [.Constant (.str _) _ _] [] _), none => some x
  | _, _ => none
/-- except X: return c -/
def tryOf : List ExceptHandler → List Stmt → List Stmt → Option (Str × Expr)
  | [.ExceptHandler (some (.Name y _)) none [.Return (some r) _] _], [], [] => some (y, r)
  | _, _, _ => none
def isFrz : St → Bool
  | .frz _ => true
  | _ => false
mutual
def mtS (Γ : Gam) (S : Sx) : St → Stmt → Bool
  | .set i e, .Assign [.Name x py] v pos => slotB S i (.Name x py) && mtE Γ S e v && nb e && asgB S x py v
  | .own i e, .Assign [.Name x py] v pos => slotB S i (.Name x py) && mtE Γ S e v && frs e && nb e && asgB S x py v
  | .unp ts e, .Assign [.Tuple es _ _] v pos => mtTs S ts es && mtE Γ S e v && nb e && !isCmp v && (swap2 S ts es e v || noswap S es v)
  | .aug i op e, .AugAssign (.Name x py) op' v _ => slotB S i (.Name x py) && decide (op = op') && mtE Γ S e v && nb e
  | .put i ix e, .Assign [.Subscript o eix _] v pos => slotB S i o && mtE Γ S ix eix && mtE Γ S e v && nb e && !isCmp v
  | .augp i ix op e, .AugAssign (.Subscript o eix _) op' v _ => slotB S i o && mtE Γ S ix eix && decide (op = op') && mtE Γ S e v && nb e && nb ix
  | .app i e, .Expr (.Call (.Attribute o m ap) [v] [] cp) pos => decide (m = ("append" : Str)) && slotB S i o && mtE Γ S e v && nb e && ap.endLine == cp.line
  | .ext i e, .Expr (.Call (.Attribute o m ap) [v] [] cp) pos => decide (m = ("extend" : Str)) && slotB S i o && mtE Γ S e v && nb e && ap.endLine == cp.line
  | .expr e, .Expr v _ => mtE Γ S e v && !isCmp v
  | .ret e, .Return (some v) _ => mtE Γ S e v
  | .ife t a b, .If c x y _ => mtE Γ S t c && tstB c && mtSs Γ S a x && mtSs Γ S b y
  | .loop tg it body, .For t i x [] _ => mtT S tg t && mtI Γ S (isTup tg) it i && nbI it && mtSs Γ S body x
  | .loopb tg i body, .For t o x [] _ => mtT S tg t && slotB S i o && mtSs Γ S body x
  | .whl t body, .While c x [] _ => mtE Γ S t c && tstB c && mtSs Γ S body x
  | .rais n, .Raise ex cause _ => (match raisOf ex cause with
    | some x => decide (x = n) && glB S.sc x && Γ.exs.any fun g => decide (g = x)
    | none => false)
  | .try1 body n c, .Try x hs oe fb _ => (match tryOf hs oe fb with
    | some (y, r) => decide (y = n) && glB S.sc y && (Γ.exs.any fun g => decide (g = y)) && mtSs Γ S body x && mtE Γ S c r && (constD c).isSome
    | none => false)
  | .brk, .Break _ => true
  | .cnt, .Continue _ => true
  | .pss, .Pass _ => true
  | .retn, .Return none _ => true
  | .dnew i, .Assign [.Name x py] (.Dict [] [] _) _ => slotB S i (.Name x py)
  | .dput i ke e, .Assign [.Subscript o ek _] v pos => slotB S i o && mtE Γ S ke ek && mtE Γ S e v && nb e && nb ke && !isCmp v
  | .ins i ix e, .Expr (.Call (.Attribute o m ap) [ei, v] [] cp) pos => decide (m = ("insert" : Str)) && slotB S i o && mtE Γ S ix ei && mtE Γ S e v && nb e && ap.endLine == cp.line
  | .rem i e, .Expr (.Call (.Attribute o m ap) [v] [] cp) pos => decide (m = ("remove" : Str)) && slotB S i o && mtE Γ S e v && nb e && ap.endLine == cp.line
  | .dead, _ => true
  | _, _ => false
def mtSs (Γ : Gam) (S : Sx) : Sts → List Stmt → Bool
  | .nil, sts => sts.isEmpty
  | .cons s ss, sts => if isFrz s = true then mtSs Γ S ss sts else match sts with
    | st :: r => mtS Γ S s st && mtSs Γ S ss r
    | [] => false
end
end DL

set_option Elab.async false
set_option linter.all false
set_option maxRecDepth 100000
set_option maxHeartbeats 8000000
namespace DL
open PySem PySem.Spec PyProof.Rows L2
open PySem.SeqAt (dataPlace remove_list_data)

structure AtS (G : Glb) (S : Sx) (X : Cx) : Prop where
  at_ : At G S X
  stk : X.stack = X.env :: X.outer
  frm : X.env.frame = some X.env.locals
  kind : S.sc.kind = .function
  psn : PassesOwn (model X.prog X.w) X.A X.env X.xe
structure Kon (K : PySem.W.Frag) (ec : Str → Value) (W : WX) (F : Fm) (k : Kt) (D : Ends) : Prop where
  nx : ∀ ρ', k.nx ρ' → ∀ O' σ' H', EnvR K F O' H' σ' ρ' → D.nx σ' H'
  rt : ∀ d, k.rt d → ∀ O' σ' H' ρ' v, EnvR K F O' H' σ' ρ' → Dr K F.O0 H' v d → D.rt v H'
  bk : ∀ ρ', k.bk ρ' → ∀ O' σ' H', EnvR K F O' H' σ' ρ' → D.bk σ' H'
  ct : ∀ ρ', k.ct ρ' → ∀ O' σ' H', EnvR K F O' H' σ' ρ' → D.ct σ' H'
  er : ∀ x ρ', k.er x ρ' → ∀ O' σ' H', EnvR K F O' H' σ' ρ' → W (ec x) none σ' H'
section
variable (K : PySem.W.Frag) (Γ : Gam) (ec : Str → Value) (W : WX)
def tS (s : DL.St) : TS := fun D σ H => ∃ F O ρ k, EnvR K F O H σ ρ ∧ wpS Γ s ρ k ∧ Kon K ec W F k D
def tSs (s : Sts) : TS := fun D σ H => ∃ F O ρ k, EnvR K F O H σ ρ ∧ wpSs Γ s ρ k ∧ Kon K ec W F k D
end
section
variable {X : Cx} {G : Glb} {S : Sx} {Γ : Gam} {ec : Str → Value} {W : WX} {e : Ex} {v : Expr} {pos py : Pos} {i : Nat} {x : Str}
theorem PS.conseq {s : Stmt} {t t' : TS} (h : PS X s t) (c : ∀ D σ H, t' D σ H → t D σ H) : PS X s t' := ⟨fun pins s σ H D I w => h.run pins s σ H D I (c D σ H w)⟩
theorem PSs.conseq {s : List Stmt} {t t' : TS} (h : PSs X s t) (c : ∀ D σ H, t' D σ H → t D σ H) : PSs X s t' := ⟨fun pins s σ H D I w => h.run pins s σ H D I (c D σ H w)⟩
theorem Kon.er1 {K : PySem.W.Frag} {F : Fm} {O : Addr → Prop} {H : Hp} {σ : L2.St} {ρ : Rho} {k : Kt} {D : Ends} (h : Kon K ec W F k D) (en : EnvR K F O H σ ρ) : Er1 K ec W F O H σ (fun x => k.er x ρ) := fun x hx H' s' => h.er x ρ hx O σ H' (en.stp s')
theorem BDr.low {K : PySem.W.Frag} {F : Fm} {O : Addr → Prop} {H : Hp} {σ : L2.St} {ρ : Rho} {w : V} {d : D} (en : EnvR K F O H σ ρ) (h : BDr K F.O0 O H w d) : Dr K F.O0 H w d := by
  rcases h with h | ⟨a, xs, ds, rfl, rfl, n, h1, h2⟩
  · exact Dr.stay (fun _ _ _ n q => n (en.sub _ q)) (fun _ _ _ q => q) d w h
  · exact .lst h1 n (DrA.stay (fun _ _ _ n q => n (en.sub _ q)) (fun _ _ _ q => q) ds xs h2)

/-! names stored -/
theorem sns_set (nd : X.N.Nodup) (hN : X.N[i]? = some x) (hx : Loc X.env.scope x) (hf : X.fn x = true ∨ X.env.scope.names.lookup x = some .local) (he : SE X Γ ec W e v) (hn : nb e = true) (hs : swapsWith v (some (.Name x py)) pos.line X.env = pure false) :
    PS X (.Assign [.Name x py] v pos) (tS X.K Γ ec W (.set i e)) := by
  refine PS.conseq (ps_set nd hN hx he hs hf) fun D σ H h => ?_
  obtain ⟨F, O, ρ, k, en, w, kn⟩ := h
  unfold wpS at w
  refine ⟨F, O, ρ, _, _, en, w, fun d hd u H1 s1 r1 => ?_, kn.er1 en⟩
  exact kn.nx _ hd O _ H1 ((en.stp s1).set (r1.n hn))
theorem sns_own (nd : X.N.Nodup) (hN : X.N[i]? = some x) (hx : Loc X.env.scope x) (hf : X.fn x = true ∨ X.env.scope.names.lookup x = some .local) (he : SE X Γ ec W e v) (hn : frs e = true) (hs : swapsWith v (some (.Name x py)) pos.line X.env = pure false) :
    PS X (.Assign [.Name x py] v pos) (tS X.K Γ ec W (.own i e)) := by
  refine PS.conseq (ps_set nd hN hx he hs hf) fun D σ H h => ?_
  obtain ⟨F, O, ρ, k, en, w, kn⟩ := h
  unfold wpS at w
  refine ⟨F, O, ρ, _, _, en, w, fun d hd u H1 s1 r1 => ?_, kn.er1 en⟩
  cases d with
  | list ds =>
    obtain ⟨p, xs, rfl, hp, hp', hA⟩ := r1.f hn ds rfl
    exact kn.nx _ hd _ _ H1 (en.own s1 hp hp' hA)
  | _ => exact hd.elim
/-- a comprehension given to a plain local -/
theorem sns_setLc {own : List (Str × Nat)} {elt : Ex} {tg : Tg} {it : Ir} {ifs : Eo} {eelt etg eiter : Expr} {eifs : List Expr} {scope : Scope} {p2 : Pos} (o : Bool) (hc : X.calm = true) (nd : X.N.Nodup) (hN : X.N[i]? = some x) (hyl : X.env.scope.names.lookup x = some .local)
    (hsw : swapsWith (.ListComp eelt [⟨etg, eiter, eifs, 0⟩] scope p2) (some (.Name x py)) pos.line X.env = pure true) (hi : PI X etg eiter (tI X.K Γ ec W it)) (ok : BlkOk X.N X.env.scope scope own)
    (hsub : ∀ j ∈ slotsT tg, j ∈ own.map (·.2)) (hne : nb elt = true)
    (hg : ∀ (s : Shared) (H : Hp) (C : Addr) (cl : List (Str × Addr)) (fp : List Addr), PG (X.blk s H scope (compEnvC scope cl C X.env) fp) etg (tG X.K tg)) (ht : ∀ (s : Shared) (H : Hp) (C : Addr) (cl : List (Str × Addr)) (fp : List Addr), PTs (X.blk s H scope (compEnvC scope cl C X.env) fp) eifs (tC X.K Γ ec W0 ifs))
    (he : ∀ (s : Shared) (H : Hp) (C : Addr) (cl : List (Str × Addr)) (fp : List Addr), PE (X.blk s H scope (compEnvC scope cl C X.env) fp) eelt (tE X.K Γ ec W0 elt)) (hs : ∀ x, foldedSetIterable eiter X.env x = pure x) :
    PS X (.Assign [.Name x py] (.ListComp eelt [⟨etg, eiter, eifs, 0⟩] scope p2) pos) (tS X.K Γ ec W (if o = true then .own i (.comp own elt tg it ifs) else .set i (.comp own elt tg it ifs))) := by
  have main := (snd_comp (W := W) (pos := p2) hc nd hi ok hsub hne hg ht he hs).2
  refine PS.conseq (ps_setLc hc nd hN hyl hsw hi ok hg ht he hs) fun D σ H h => ?_
  obtain ⟨F, O, ρ, k, en, w, kn⟩ := h
  refine main σ H _ ?_
  cases o with
  | true =>
    rw [if_pos rfl] at w
    unfold wpS at w
    refine ⟨F, O, ρ, _, _, en, w, fun d hd u H1 s1 r1 => ?_, kn.er1 en⟩
    cases d with
    | list ds =>
      obtain ⟨p, xs, rfl, hp, hp', hA⟩ := r1.f rfl ds rfl
      exact kn.nx _ hd _ _ H1 (en.own s1 hp hp' hA)
    | _ => exact hd.elim
  | false =>
    rw [if_neg Bool.false_ne_true] at w
    unfold wpS at w
    refine ⟨F, O, ρ, _, _, en, w, fun d hd u H1 s1 r1 => ?_, kn.er1 en⟩
    exact kn.nx _ hd O _ H1 ((en.stp s1).set (r1.n rfl))
theorem sns_setLc2 {own : List (Str × Nat)} {elt : Ex} {tg tg1 : Tg} {it it1 : Ir} {ifs ifs1 : Eo} {eelt etg eiter etg1 eiter1 : Expr} {eifs eifs1 : List Expr} {scope : Scope} {p2 : Pos} (o : Bool) (hc : X.calm = true) (nd : X.N.Nodup) (hN : X.N[i]? = some x) (hyl : X.env.scope.names.lookup x = some .local)
    (hsw : swapsWith (.ListComp eelt [⟨etg, eiter, eifs, 0⟩, ⟨etg1, eiter1, eifs1, 0⟩] scope p2) (some (.Name x py)) pos.line X.env = pure true) (hi : PI X etg eiter (tI X.K Γ ec W it)) (ok : BlkOk X.N X.env.scope scope own)
    (hsub : ∀ j ∈ slotsT tg, j ∈ own.map (·.2)) (hsub1 : ∀ j ∈ slotsT tg1, j ∈ own.map (·.2)) (hne : nb elt = true) (hni : nbI it1 = true)
    (hg : ∀ (s : Shared) (H : Hp) (C : Addr) (cl : List (Str × Addr)) (fp : List Addr), PG (X.blk s H scope (compEnvC scope cl C X.env) fp) etg (tG X.K tg)) (ht : ∀ (s : Shared) (H : Hp) (C : Addr) (cl : List (Str × Addr)) (fp : List Addr), PTs (X.blk s H scope (compEnvC scope cl C X.env) fp) eifs (tC X.K Γ ec W0 ifs))
    (hi1 : ∀ (s : Shared) (H : Hp) (C : Addr) (cl : List (Str × Addr)) (fp : List Addr), PI (X.blk s H scope (compEnvC scope cl C X.env) fp) etg1 eiter1 (tI X.K Γ ec W0 it1))
    (hg1 : ∀ (s : Shared) (H : Hp) (C : Addr) (cl : List (Str × Addr)) (fp : List Addr), PG (X.blk s H scope (compEnvC scope cl C X.env) fp) etg1 (tG X.K tg1)) (ht1 : ∀ (s : Shared) (H : Hp) (C : Addr) (cl : List (Str × Addr)) (fp : List Addr), PTs (X.blk s H scope (compEnvC scope cl C X.env) fp) eifs1 (tC X.K Γ ec W0 ifs1))
    (he : ∀ (s : Shared) (H : Hp) (C : Addr) (cl : List (Str × Addr)) (fp : List Addr), PE (X.blk s H scope (compEnvC scope cl C X.env) fp) eelt (tE X.K Γ ec W0 elt)) (hs : ∀ x, foldedSetIterable eiter X.env x = pure x) (hs1 : ∀ env x, foldedSetIterable eiter1 env x = pure x) :
    PS X (.Assign [.Name x py] (.ListComp eelt [⟨etg, eiter, eifs, 0⟩, ⟨etg1, eiter1, eifs1, 0⟩] scope p2) pos) (tS X.K Γ ec W (if o = true then .own i (.comp2 own elt tg it ifs tg1 it1 ifs1) else .set i (.comp2 own elt tg it ifs tg1 it1 ifs1))) := by
  have main := (snd_comp2 (W := W) (pos := p2) hc nd hi ok hsub hsub1 hne hni hg ht hi1 hg1 ht1 he hs hs1).2
  refine PS.conseq (ps_setLc2 hc nd hN hyl hsw hi ok hsub1 hg ht hi1 hg1 ht1 he hs hs1) fun D σ H h => ?_
  obtain ⟨F, O, ρ, k, en, w, kn⟩ := h
  refine main σ H _ ?_
  cases o with
  | true =>
    rw [if_pos rfl] at w
    unfold wpS at w
    refine ⟨F, O, ρ, _, _, en, w, fun d hd u H1 s1 r1 => ?_, kn.er1 en⟩
    cases d with
    | list ds =>
      obtain ⟨p, xs, rfl, hp, hp', hA⟩ := r1.f rfl ds rfl
      exact kn.nx _ hd _ _ H1 (en.own s1 hp hp' hA)
    | _ => exact hd.elim
  | false =>
    rw [if_neg Bool.false_ne_true] at w
    unfold wpS at w
    refine ⟨F, O, ρ, _, _, en, w, fun d hd u H1 s1 r1 => ?_, kn.er1 en⟩
    exact kn.nx _ hd O _ H1 ((en.stp s1).set (r1.n rfl))
theorem sns_unp {ts : Tgs} {es : List Expr} {kk : Nat} {tp : Pos} (hg : PG X (.Tuple es kk tp) (tG X.K (.t ts))) (he : SE X Γ ec W e v) (hn : nb e = true) (hs : swapsWithSole [.Tuple es kk tp] v pos.line X.env = pure false) (hw : swappedStores [.Tuple es kk tp] v X.env = pure none) :
    PS X (.Assign [.Tuple es kk tp] v pos) (tS X.K Γ ec W (.unp ts e)) := by
  refine PS.conseq (ps_asg he hg hs hw rfl) fun D σ H h => ?_
  obtain ⟨F, O, ρ, k, en, w, kn⟩ := h
  unfold wpS at w
  refine ⟨F, O, ρ, _, _, en, w, fun d hd u H1 s1 r1 => ?_, kn.er1 en⟩
  exact ⟨F, O, ρ, d, _, en.stp s1, r1.n hn, hd, fun ρ' hp σ' _ en' => kn.nx _ hp O σ' H1 en'⟩
theorem sns_par {j : Nat} {y : Str} {a b : Ex} {ea eb : Expr} {px py2 pt pt2 : Pos} {kt k2 : Nat} (hc : X.calm = true) (nd : X.N.Nodup) (hi : X.N[i]? = some x) (hj : X.N[j]? = some y) (hij : i ≠ j)
    (hx : X.env.scope.names.lookup x = some .local) (hy : X.env.scope.names.lookup y = some .local) (ha : SE X Γ ec W a ea) (hb : SE X Γ ec W b eb) (na : nb a = true) (nb' : nb b = true) (sa : starred ea = false) (sb : starred eb = false)
    (hw : swappedStores [.Tuple [.Name x px, .Name y py2] kt pt] (.Tuple [ea, eb] k2 pt2) X.env = pure (some [x, y])) :
    PS X (.Assign [.Tuple [.Name x px, .Name y py2] kt pt] (.Tuple [ea, eb] k2 pt2) pos) (tS X.K Γ ec W (.unp (.cons (.n i) (.cons (.n j) .nil)) (.tup (.cons a (.cons b .nil))))) := by
  refine PS.conseq (ps_par hc nd hi hj hij hx hy (pa_cons ha (pa_cons hb pa_nil (star_cons sb)) (star_cons sa)) hw rfl) fun D σ H h => ?_
  obtain ⟨F, O, ρ, k, en, w, kn⟩ := h
  simp only [wpS, wpE, wpX] at w
  refine ⟨F, O, ρ, _, _, en, w, fun d hd u H1 s1 r1 => ?_, kn.er1 en⟩
  refine ⟨F, O, ρ, _, _, en.stp s1, hd, fun d2 hd2 u2 H2 s2 r2 => ?_, (kn.er1 en).next s1⟩
  have hd3 : k.nx ((ρ.set i (some (.fz d))).set j (some (.fz d2))) := by
    simp only [fzs, Option.map_some, optQ, bindT, bindTs, tgsLen] at hd2
    exact hd2.2.2
  have en2 := (en.stp s1).stp s2
  exact ⟨u, u2, rfl, kn.nx _ hd3 O _ H2 ((en2.set ((r1.n na).stp (en.stp s1) s2)).set (r2.n nb'))⟩
theorem sns_frz {ss : Sts} {sts : List Stmt} (h : PSs X sts (tSs X.K Γ ec W ss)) : PSs X sts (tSs X.K Γ ec W (.cons (.frz i) ss)) := by
  refine PSs.conseq h fun D σ H h => ?_
  obtain ⟨F, O, ρ, k, en, w, kn⟩ := h
  unfold wpSs wpS at w
  split at w
  · rename_i d hd
    obtain ⟨a, h1, en2⟩ := en.freeze hd
    exact ⟨F, _, _, k, en2, w, kn⟩
  · exact w.elim
/-! += -/
theorem iop_mulW : OpR X (inplaceOp .Mult) (rI CMulW fun i j => .int (i * j)) := opI fun _ _ _ _ _ _ _ hc q => imul_int q hc.ok
def RAug (op : Operator) : V → V → Hp → VK → Prop := fun x y H Q => ∃ i j P, x = .int i ∧ y = .int j ∧ augF op (.int i) (.int j) P ∧ ∀ r, P (.int r) → Q (.int r) H
theorem ip_F (op : Operator) : PIp X op (RAug op) := by
  intro pins s σ H a b v u Q I rx ry h
  obtain ⟨i, j, P, rfl, rfl, q, hP⟩ := h
  cases op with
  | Add => exact iop_add pins s σ H _ _ v u Q I rx ry ⟨i, j, rfl, rfl, hP _ q⟩
  | Sub => exact iop_sub pins s σ H _ _ v u Q I rx ry ⟨i, j, rfl, rfl, hP _ q⟩
  | Mult => exact iop_mulW pins s σ H _ _ v u Q I rx ry ⟨i, j, rfl, rfl, q.1, hP _ q.2⟩
  | _ => exact q.elim
theorem augF_int {op : Operator} {a b : D} {P : D → Prop} (h : augF op a b P) : ∃ i j, a = .int i ∧ b = .int j := by
  cases op <;> cases a <;> first | exact h.elim | (cases b <;> first | exact h.elim | exact ⟨_, _, rfl, rfl⟩)
theorem augF_res {op : Operator} {a b : D} {P : D → Prop} (h : augF op a b P) : augF op a b fun r => P r ∧ ∃ z, r = .int z := by
  obtain ⟨i, j, rfl, rfl⟩ := augF_int h
  cases op <;> first | exact h.elim | exact ⟨h, _, rfl⟩ | exact ⟨h.1, h.2, _, rfl⟩
theorem sns_aug {op : Operator} (nd : X.N.Nodup) (hN : X.N[i]? = some x) (hx : Loc X.env.scope x) (hf : X.fn x = true ∨ X.env.scope.names.lookup x = some .local) (he : SE X Γ ec W e v) : PS X (.AugAssign (.Name x py) op v pos) (tS X.K Γ ec W (.aug i op e)) := by
  refine PS.conseq (ps_aug nd hN hx he (ip_F op) hf) fun D σ H h => ?_
  obtain ⟨F, O, ρ, k, en, w, kn⟩ := h
  unfold wpS at w
  split at w
  · rename_i d hd
    obtain ⟨z, h1, h2⟩ := en.fz hd
    refine ⟨z, h1, F, O, ρ, _, _, en, w, fun y hy u H1 s1 r1 => ?_, kn.er1 en⟩
    obtain ⟨a, b, rfl, rfl⟩ := augF_int hy
    cases h2
    refine ⟨a, b, _, rfl, r1.b.int, hy, fun r hr => ?_⟩
    exact kn.nx _ hr O _ H1 ((en.stp s1).set (.int r))
  · exact w.elim
/-! items stored -/
theorem owL_iff {ρ : Rho} {P : List D → Prop} (h : owL ρ i P) : ∃ ds, ρ[i]? = some (some (.ow (.list ds))) ∧ P ds := by
  unfold owL at h
  split at h
  · rename_i ds q; exact ⟨ds, q, h⟩
  · exact h.elim
theorem intQ_iff {d : D} {P : Int → Prop} (h : intQ d P) : ∃ z, d = .int z ∧ P z := by
  cases d <;> first | exact h.elim | exact ⟨_, rfl, h⟩
theorem lstQ_iff {d : D} {P : List D → Prop} (h : lstQ d P) : ∃ z, d = .list z ∧ P z := by
  cases d <;> first | exact h.elim | exact ⟨_, rfl, h⟩
theorem EnvR.owS {K : PySem.W.Frag} {F : Fm} {O : Addr → Prop} {H : Hp} {σ : L2.St} {ρ : Rho} {ds : List D} (en : EnvR K F O H σ ρ) (hi : ρ[i]? = some (some (.ow (.list ds)))) : ∃ a xs, σ[i]? = some (some (.ref a)) ∧ ¬ F.O0 a ∧ H a = some (.lst xs) ∧ DrA K O H xs ds := by
  obtain ⟨a, xs, ds', e, h1, h2, h3, h4, h5⟩ := en.ow hi
  cases e
  exact ⟨a, xs, h1, h3, h4, h5⟩
theorem sns_put {ix : Ex} {eix : Expr} {po ps : Pos} (he : SE X Γ ec W e v) (hn : nb e = true)
    (hs : swapsWithSole [.Subscript (.Name x po) eix ps] v pos.line X.env = pure false) (hw : swappedStores [.Subscript (.Name x po) eix ps] v X.env = pure none) (pg : PG X (.Subscript (.Name x po) eix ps) (gSub (tVar i) (tE X.K Γ ec W ix) rSetL)) :
    PS X (.Assign [.Subscript (.Name x po) eix ps] v pos) (tS X.K Γ ec W (.put i ix e)) := by
  refine PS.conseq (ps_asg he pg hs hw rfl) fun D σ H h => ?_
  obtain ⟨F, O, ρ, k, en, w, kn⟩ := h
  unfold wpS at w
  refine ⟨F, O, ρ, _, _, en, w, fun y hy u H1 s1 r1 => ?_, kn.er1 en⟩
  have en1 := en.stp s1
  obtain ⟨ds, hi, hy⟩ := owL_iff hy
  obtain ⟨a, xs, g1, g2, g3, g4⟩ := en1.owS hi
  refine ⟨.ref a, g1, F, O, ρ, _, _, en1, hy, fun z hz uz H2 s2 r2 => ?_, (kn.er1 en).next s1⟩
  obtain ⟨z, rfl, hz⟩ := intQ_iff hz
  obtain ⟨j, hj, hz⟩ := optQ_iff hz
  have en2 := en1.stp s2
  refine ⟨a, xs, z, j, rfl, r2.b.int, s2.keep _ _ (en1.ndo g2) g3, by rw [g4.length]; exact hj, ?_⟩
  exact kn.nx _ hz O _ _ (en2.mut hi g1 ((g4.stp en1 s2).set j ((r1.n hn).stp en1 s2)))
/-- an item read, for a change of it -/
def rGetL (K : PySem.W.Frag) : V → V → Hp → VK → Prop := fun o i H Q => ∃ p xs k v, o = .ref p ∧ i = .int k ∧ SqL K H p xs ∧ atI xs k = some v ∧ Q v H
theorem get_list : PGet X (rGetL X.K) := by
  intro pins s σ H o i ov iv Q I ro ri h
  obtain ⟨p, xs, k, z, rfl, rfl, hq, he, q⟩ := h
  cases ro
  obtain ⟨t, rfl⟩ := ri
  obtain ⟨its, r, pl, hz⟩ := I.list hq
  obtain ⟨j, h1, h2, h3, h4, h5⟩ := atI_get he
  obtain ⟨w, ew, rw'⟩ := r.get h2
  have hl := r.length
  have hn := line63
  have fin : EP X pins σ Q w s := ⟨z, H, I, rw', q⟩
  by_cases h0 : 0 ≤ k
  · have hj : k.toNat = j := by
      rw [seqIndex_of h0 h5] at h1
      exact Option.some.inj h1
    exact wpAny_getItem_list pl.isList h0 (by omega) (by rw [hj]; simpa using ew) fin
  · have hj : (k + (its.toArray.size : Int)).toNat = j := by
      rw [seqIndex_neg (by omega) h4] at h1
      rw [List.size_toArray, ← hl]
      exact Option.some.inj h1
    exact wpAny_getItem_list_neg pl.isList (by omega) (by rw [List.size_toArray] <;> omega) (by omega) (by rw [hj]; simpa using ew) fin
theorem sns_augp {ix : Ex} {eix : Expr} {po ps : Pos} {op : Operator} (hN : X.N[i]? = some x) (hv : Vis X.env.scope x) (hd : (x == ("__debug__" : Str)) = false) (hcd : (x == ("__classdict__" : Str)) = false) (hix : SE X Γ ec W ix eix) (he : SE X Γ ec W e v)
    (ha : ∀ ov iv new, augStore eix ov iv new = (do holding [new, ov, iv] (setItem ov iv new); release [new, ov, iv] []; pure .next)) :
    PS X (.AugAssign (.Subscript (.Name x po) eix ps) op v pos) (tS X.K Γ ec W (.augp i ix op e)) := by
  refine PS.conseq (ps_augS (pe_var hN hv hd hcd) hix get_list he (ip_F op) set_list ha) fun D σ H h => ?_
  obtain ⟨F, O, ρ, k, en, w, kn⟩ := h
  unfold wpS at w
  obtain ⟨ds, hi, w⟩ := owL_iff w
  obtain ⟨a, xs, g1, g2, g3, g4⟩ := en.owS hi
  refine ⟨.ref a, g1, F, O, ρ, _, _, en, w, fun z hz uz H1 s1 r1 => ?_, kn.er1 en⟩
  obtain ⟨z, rfl, hz⟩ := intQ_iff hz
  obtain ⟨d, hd, hz⟩ := optQ_iff hz
  have en1 := en.stp s1
  have g3' := s1.keep _ _ (en.ndo g2) g3
  have g4' := g4.stp en s1
  obtain ⟨w1, e1, e2⟩ := g4'.atI hd
  refine ⟨a, xs, z, w1, rfl, r1.b.int, SqL.of g3', e1, F, O, ρ, _, _, en1, hz, fun y hy u H2 s2 r2 => ?_, (kn.er1 en).next s1⟩
  obtain ⟨p, q, rfl, rfl⟩ := augF_int hy
  cases e2
  refine ⟨p, q, _, rfl, r2.b.int, hy, fun r hr => ?_⟩
  obtain ⟨j, hj, hr⟩ := optQ_iff hr
  have en2 := en1.stp s2
  refine ⟨a, xs, z, j, rfl, r1.b.int, s2.keep _ _ (en1.ndo g2) g3', by rw [g4.length]; exact hj, ?_⟩
  exact kn.nx _ hr O _ _ (en2.mut hi g1 ((g4'.stp en1 s2).set j (.int r)))
/-! methods that change a list -/
theorem few1 {cp : Pos} (hs : starred v = false) : ((backTo cp (starEach [v] X.env)).all (fun x => !x.1) && (backToKw cp (keywordEach [] X.env)).all (fun x => x.1.isSome)
      && decide (([v] : List Expr).length + ([] : List Keyword).length + (if ([] : List Keyword).isEmpty then 0 else 1) < 30)) = true := by
  rw [star_cons hs]
  rfl
theorem sns_app {po ap cp : Pos} (hN : X.N[i]? = some x) (hv : Vis X.env.scope x) (hd : (x == ("__debug__" : Str)) = false) (hcd : (x == ("__classdict__" : Str)) = false) (he : SE X Γ ec W e v) (hn : nb e = true) (hs : starred v = false) (hl : (ap.endLine == cp.line) = true) :
    PS X (.Expr (.Call (.Attribute (.Name x po) "append" ap) [v] [] cp) pos) (tS X.K Γ ec W (.app i e)) := by
  refine PS.conseq (ps_expr (pe_bm PySem.F.plainAttrs_list PySem.F.slot_list_append PySem.F.type_list_append mt_append (pe_var hN hv hd hcd) (pa_cons he pa_nil (star_cons hs)) rfl (few1 hs) hl (star_cons hs) rfl) rfl) fun D σ H h => ?_
  obtain ⟨F, O, ρ, k, en, w, kn⟩ := h
  unfold wpS at w
  obtain ⟨ds, hi, w⟩ := owL_iff w
  obtain ⟨a, xs, g1, g2, g3, g4⟩ := en.owS hi
  refine ⟨.ref a, g1, .inl ⟨rfl, _, SqL.of g3⟩, F, O, ρ, _, _, en, w, fun y hy u H1 s1 r1 => ?_, kn.er1 en⟩
  refine ⟨a, xs, u, rfl, rfl, s1.keep _ _ (en.ndo g2) g3, by rw [g4.length]; exact hy.1, ?_⟩
  exact kn.nx _ hy.2 O _ _ ((en.stp s1).mut hi g1 ((g4.stp en s1).append (.cons (r1.n hn) .nil)))
theorem sns_ext {po ap cp : Pos} (hN : X.N[i]? = some x) (hv : Vis X.env.scope x) (hd : (x == ("__debug__" : Str)) = false) (hcd : (x == ("__classdict__" : Str)) = false) (he : SE X Γ ec W e v) (hn : nb e = true) (hs : starred v = false) (hl : (ap.endLine == cp.line) = true) :
    PS X (.Expr (.Call (.Attribute (.Name x po) "extend" ap) [v] [] cp) pos) (tS X.K Γ ec W (.ext i e)) := by
  refine PS.conseq (ps_expr (pe_bm PySem.F.plainAttrs_list PySem.F.slot_list_extend PySem.F.type_list_extend mt_extend (pe_var hN hv hd hcd) (pa_cons he pa_nil (star_cons hs)) rfl (few1 hs) hl (star_cons hs) rfl) rfl) fun D σ H h => ?_
  obtain ⟨F, O, ρ, k, en, w, kn⟩ := h
  unfold wpS at w
  obtain ⟨ds, hi, w⟩ := owL_iff w
  obtain ⟨a, xs, g1, g2, g3, g4⟩ := en.owS hi
  refine ⟨.ref a, g1, .inl ⟨rfl, _, SqL.of g3⟩, F, O, ρ, _, _, en, w, fun y hy u H1 s1 r1 => ?_, kn.er1 en⟩
  obtain ⟨es, rfl, hy⟩ := lstQ_iff hy
  have hd := r1.n hn
  obtain ⟨b, ys, rfl, h1, h2⟩ := (BDr.of (N := F.O0) hd).lst
  refine ⟨a, b, xs, ys, rfl, rfl, s1.keep _ _ (en.ndo g2) g3, h1, by rw [g4.length, h2.length]; exact hy.1, ?_⟩
  exact kn.nx _ hy.2 O _ _ ((en.stp s1).mut hi g1 ((g4.stp en s1).append h2))
/-! insert, remove -/
theorem few2 {v2 : Expr} {cp : Pos} (hs : starred v = false) (hs2 : starred v2 = false) : ((backTo cp (starEach [v, v2] X.env)).all (fun x => !x.1) && (backToKw cp (keywordEach [] X.env)).all (fun x => x.1.isSome)
      && decide (([v, v2] : List Expr).length + ([] : List Keyword).length + (if ([] : List Keyword).isEmpty then 0 else 1) < 30)) = true := by
  rw [star_cons hs, star_cons hs2]
  rfl
theorem sns_ins {ix : Ex} {ei : Expr} {po ap cp : Pos} (hN : X.N[i]? = some x) (hv : Vis X.env.scope x) (hd : (x == ("__debug__" : Str)) = false) (hcd : (x == ("__classdict__" : Str)) = false) (hi : SE X Γ ec W ix ei) (he : SE X Γ ec W e v) (hn : nb e = true) (hsi : starred ei = false) (hs : starred v = false) (hl : (ap.endLine == cp.line) = true) :
    PS X (.Expr (.Call (.Attribute (.Name x po) "insert" ap) [ei, v] [] cp) pos) (tS X.K Γ ec W (.ins i ix e)) := by
  refine PS.conseq (ps_expr (pe_bm PySem.F.plainAttrs_list PySem.F.slot_list_insert PySem.F.type_list_insert mt_insert (pe_var hN hv hd hcd) (pa_cons hi (pa_cons he pa_nil (star_cons hs)) (star_cons hsi)) rfl (few2 hsi hs) hl (star_cons hsi) (by rw [star_cons hs]; rfl)) rfl) fun D σ H h => ?_
  obtain ⟨F, O, ρ, k, en, w, kn⟩ := h
  unfold wpS at w
  obtain ⟨ds, hi, w⟩ := owL_iff w
  obtain ⟨a, xs, g1, g2, g3, g4⟩ := en.owS hi
  refine ⟨.ref a, g1, .inl ⟨rfl, _, SqL.of g3⟩, F, O, ρ, _, _, en, w, fun z hz uz H1 s1 r1 => ?_, kn.er1 en⟩
  obtain ⟨z, rfl, hz⟩ := intQ_iff hz
  have en1 := en.stp s1
  refine ⟨F, O, ρ, _, _, en1, hz, fun y hy u H2 s2 r2 => ?_, (kn.er1 en).next s1⟩
  have en2 := en1.stp s2
  have g3' := (s1.trans s2).keep _ _ (en.ndo g2) g3
  have g4' := (g4.stp en s1).stp en1 s2
  refine ⟨a, xs, z, u, rfl, by rw [r1.b.int], g3', by rw [g4.length]; exact hy.1, hy.2.1, hy.2.2.1, ?_⟩
  exact kn.nx _ hy.2.2.2 O _ _ (en2.mut hi g1 (((g4'.take z.toNat).append (.cons (r2.n hn) .nil)).append (g4'.drop z.toNat)))
theorem vals_erase : ∀ {vs : List V} {us : List Value} (i : Nat), Vals vs us → Vals (vs.eraseIdx i) (us.eraseIdx i)
  | _, _, _, .nil => .nil
  | _, _, 0, .cons _ r => r
  | _, _, i + 1, .cons r1 r => .cons r1 (vals_erase i r)
theorem mt_remD (hu : X.A.units + 66 < cLine) : MtR X "list.remove" (fun x vs H Q => ∃ (l : Addr) (xs : List V) (y : V) (ds : List D) (d : D) (j : Nat), x = .ref l ∧ vs = [y] ∧ H l = some (.lst xs) ∧ DpAll X.K H xs ds ∧ Dp X.K H y d ∧ shp d ∧ shp (.list ds) ∧ dataPlace ds d = some j ∧
    Q .non (upd H l (.lst (xs.eraseIdx j)))) := by
  intro pins s σ H x vs v us Q I rx rv h
  obtain ⟨l, xs, y, ds, d, j, rfl, rfl, hH, h1, h2, sd, sl, hp, q⟩ := h
  cases rx
  cases rv with
  | cons r1 rr =>
    cases rr
    obtain ⟨z, its, n, r, hl, e⟩ := I.lstM hH
    obtain ⟨as, rs⟩ := Dp.readsAll I ds xs its h1 r
    obtain ⟨bs, rx⟩ := Dp.reads I d y _ h2 r1
    have pl := PyData.plainAll_of_canLay0 ds (by have := SeqAt.canLay_of_shaped sl; simpa only [PyData.canLay0] using this)
    have pd := PyData.plain_of_canLay0 d (SeqAt.canLay_of_shaped sd)
    refine remove_list_data (vs := its.toArray) ⟨_, e, rfl, n, rfl⟩ rs rx pl pd ?_ hp (by rw [List.size_toArray, ← r.length]; exact z) ?_
    · have := SeqAt.depth_of_shaped sd
      omega
    · refine ⟨.non, _, I.lset (its' := its.eraseIdx j) hH e ?_ ?_ ?_, rfl, q⟩
      · show its.toArray.eraseIdxIfInBounds j = _
        simp
      · exact vals_erase j r
      · have := List.length_eraseIdx_le xs j
        omega
theorem sns_rem {po ap cp : Pos} (hu : X.A.units + 66 < cLine) (hN : X.N[i]? = some x) (hv : Vis X.env.scope x) (hd : (x == ("__debug__" : Str)) = false) (hcd : (x == ("__classdict__" : Str)) = false) (he : SE X Γ ec W e v) (hn : nb e = true) (hs : starred v = false) (hl : (ap.endLine == cp.line) = true) :
    PS X (.Expr (.Call (.Attribute (.Name x po) "remove" ap) [v] [] cp) pos) (tS X.K Γ ec W (.rem i e)) := by
  refine PS.conseq (ps_expr (pe_bm PySem.F.plainAttrs_list PySem.F.slot_list_remove PySem.F.type_list_remove (mt_remD hu) (pe_var hN hv hd hcd) (pa_cons he pa_nil (star_cons hs)) rfl (few1 hs) hl (star_cons hs) rfl) rfl) fun D σ H h => ?_
  obtain ⟨F, O, ρ, k, en, w, kn⟩ := h
  unfold wpS at w
  obtain ⟨ds, hi, w⟩ := owL_iff w
  obtain ⟨a, xs, g1, g2, g3, g4⟩ := en.owS hi
  refine ⟨.ref a, g1, .inl ⟨rfl, _, SqL.of g3⟩, F, O, ρ, _, _, en, w, fun y hy u H1 s1 r1 => ?_, kn.er1 en⟩
  obtain ⟨h1, h2, h3⟩ := hy
  obtain ⟨j, hj, h3⟩ := optQ_iff h3
  have g4' := g4.stp en s1
  refine ⟨a, xs, u, ds, y, j, rfl, rfl, s1.keep _ _ (en.ndo g2) g3, DrA.dp _ _ g4', Dr.dp _ _ (r1.n hn), h1, h2, hj, ?_⟩
  exact kn.nx _ h3 O _ _ ((en.stp s1).mut hi g1 (g4'.eraseIdx j))
/-! dicts -/
theorem odL_iff {ρ : Rho} {P : List (NestedKey × D) → Prop} (h : odL ρ i P) : ∃ kvs, ρ[i]? = some (some (.od kvs)) ∧ P kvs := by
  unfold odL at h
  split at h
  · rename_i kvs q; exact ⟨kvs, q, h⟩
  · exact h.elim
def rSetN (K : PySem.W.Frag) : V → V → V → Hp → (Hp → Prop) → Prop := fun o i v H Q => ∃ (a b : Addr) (O : Addr → Prop) (xs : List EnV) (kvs : List (NestedKey × D)) (k : NestedKey), o = .ref a ∧ i = .ref b ∧ H a = some (dctO a xs) ∧ DV K O H xs kvs ∧ keyOkK k ∧ Dr K O H (.ref b) k.data ∧ xs.length < sizeLine ∧ Q (upd H a (dctO a (putX xs k b v)))
theorem set_dictN (hu : X.A.units + 66 < cLine) : PSet X (rSetN X.K) := by
  intro pins s σ H o i v ov iv u Q I ro ri rv h
  obtain ⟨a, b, O, xs, kvs, k, rfl, rfl, ha, dv, hk, hb, hz, q⟩ := h
  cases ro
  cases ri
  exact d_setN (by show X.A.units + 1 + 8 < cLine; omega) I ha dv hk hb rv hz fun s' I' => ⟨_, I', q⟩
theorem sns_dput {ke : Ex} {ek : Expr} {po ps : Pos} (he : SE X Γ ec W e v) (hn : nb e = true) (hnk : nb ke = true)
    (hs : swapsWithSole [.Subscript (.Name x po) ek ps] v pos.line X.env = pure false) (hw : swappedStores [.Subscript (.Name x po) ek ps] v X.env = pure none) (pg : PG X (.Subscript (.Name x po) ek ps) (gSub (tVar i) (tE X.K Γ ec W ke) (rSetN X.K))) :
    PS X (.Assign [.Subscript (.Name x po) ek ps] v pos) (tS X.K Γ ec W (.dput i ke e)) := by
  refine PS.conseq (ps_asg he pg hs hw rfl) fun D σ H h => ?_
  obtain ⟨F, O, ρ, k, en, w, kn⟩ := h
  unfold wpS at w
  refine ⟨F, O, ρ, _, _, en, w, fun y hy u H1 s1 r1 => ?_, kn.er1 en⟩
  have en1 := en.stp s1
  obtain ⟨kvs, hi, hy⟩ := odL_iff hy
  obtain ⟨a, xs, g1, g2, g3, g4, g5⟩ := en1.odAt hi
  refine ⟨.ref a, g1, F, O, ρ, _, _, en1, hy, fun z hz uz H2 s2 r2 => ?_, (kn.er1 en).next s1⟩
  obtain ⟨kk, hkk, hl, hz2⟩ := optQ_iff hz
  obtain ⟨e1, e2, ds, rfl⟩ := keyT_ok hkk
  have en2 := en1.stp s2
  have dk := r2.n hnk
  obtain ⟨b, rfl⟩ : ∃ b, uz = .ref b := by cases dk; exact ⟨_, rfl⟩
  have g5' : DV X.K O H2 xs kvs := Paired.mapP g5 fun x p q => ⟨q.1, q.2.1.stp en1 s2, q.2.2.stp en1 s2⟩
  have hdk : Dr X.K O H2 (.ref b) kk.data := by rw [e1]; exact dk
  refine ⟨a, b, O, xs, kvs, kk, rfl, rfl, s2.keep _ _ (en1.ndo g3) g4, g5', e2, hdk, by rw [dv_length g5]; exact hl, ?_⟩
  exact kn.nx _ hz2 O _ _ (en2.mutD hi g1 (dv_put g5' hdk ((r1.n hn).stp en1 s2)))
theorem pe_dnewN {p : Pos} : PE X (.Dict [] [] p) (fun σ H Q => ∀ q, H q = none → Q (.ref q) (upd H q (dctO q []))) := ⟨fun pins s σ H Q I h =>
  wpAny_Dict_empty ⟨.ref s.heap.objs.size, _, d_newN I, rfl, h _ (I.hok.fresh (Nat.le_refl _))⟩⟩
theorem sns_dnew {p : Pos} (nd : X.N.Nodup) (hN : X.N[i]? = some x) (hx : Loc X.env.scope x) (hf : X.fn x = true ∨ X.env.scope.names.lookup x = some .local) :
    PS X (.Assign [.Name x py] (.Dict [] [] p) pos) (tS X.K Γ ec W (.dnew i)) := by
  refine PS.conseq (ps_set nd hN hx pe_dnewN rfl hf) fun D σ H h => ?_
  obtain ⟨F, O, ρ, k, en, w, kn⟩ := h
  unfold wpS at w
  intro q hq
  exact kn.nx _ w _ _ _ (en.ownD (Stp.same en (same_upd hq)) hq ⟨[], upd_same, .nil⟩)
/-! the rest -/
theorem sns_expr (he : SE X Γ ec W e v) (hs : swapsWith v none pos.line X.env = pure false) : PS X (.Expr v pos) (tS X.K Γ ec W (.expr e)) := by
  refine PS.conseq (ps_expr he hs) fun D σ H h => ?_
  obtain ⟨F, O, ρ, k, en, w, kn⟩ := h
  unfold wpS at w
  exact ⟨F, O, ρ, _, _, en, w, fun y hy u H1 s1 r1 => kn.nx _ hy O _ H1 (en.stp s1), kn.er1 en⟩
theorem sns_ret (he : SE X Γ ec W e v) : PS X (.Return (some v) pos) (tS X.K Γ ec W (.ret e)) := by
  refine PS.conseq (ps_ret he) fun D σ H h => ?_
  obtain ⟨F, O, ρ, k, en, w, kn⟩ := h
  unfold wpS at w
  exact ⟨F, O, ρ, _, _, en, w, fun y hy u H1 s1 r1 => kn.rt _ hy O σ H1 ρ u (en.stp s1) (r1.b.low (en.stp s1)), kn.er1 en⟩
theorem sns_ife {c : Expr} {t : Ex} {a b : Sts} {sa sb : List Stmt} (ht : PT X c (tT X.K Γ ec W t)) (ha : PSs X sa (tSs X.K Γ ec W a)) (hb : PSs X sb (tSs X.K Γ ec W b)) : PS X (.If c sa sb pos) (tS X.K Γ ec W (.ife t a b)) := by
  refine PS.conseq (ps_if ht ha hb) fun D σ H h => ?_
  obtain ⟨F, O, ρ, k, en, w, kn⟩ := h
  unfold wpS at w
  refine ⟨F, O, ρ, _, _, en, w, fun d hd => ?_, kn.er1 en⟩
  obtain ⟨c, hc, q⟩ := optQ_iff hd
  refine ⟨c, hc, fun H1 s1 => ?_⟩
  cases c with
  | true =>
    rw [if_pos rfl] at q ⊢
    exact ⟨F, O, ρ, k, en.stp s1, q, kn⟩
  | false =>
    rw [if_neg Bool.false_ne_true] at q ⊢
    exact ⟨F, O, ρ, k, en.stp s1, q, kn⟩
theorem sns_nil : PSs X [] (tSs X.K Γ ec W .nil) := by
  refine PSs.conseq pss_nil fun D σ H h => ?_
  obtain ⟨F, O, ρ, k, en, w, kn⟩ := h
  unfold wpSs at w
  exact kn.nx _ w O σ H en
theorem sns_cons {s : DL.St} {ss : Sts} {st : Stmt} {sts : List Stmt} (h1 : PS X st (tS X.K Γ ec W s)) (h2 : PSs X sts (tSs X.K Γ ec W ss)) : PSs X (st :: sts) (tSs X.K Γ ec W (.cons s ss)) := by
  refine PSs.conseq (pss_cons h1 h2) fun D σ H h => ?_
  obtain ⟨F, O, ρ, k, en, w, kn⟩ := h
  unfold wpSs at w
  exact ⟨F, O, ρ, _, en, w, ⟨fun ρ' hn O' σ' H' en' => ⟨F, O', ρ', k, en', hn, kn⟩, kn.rt, kn.bk, kn.ct, kn.er⟩⟩
theorem Fm.at_O0 {F : Fm} {O : Addr → Prop} {H : Hp} : (F.at O H).O0 = F.O0 := rfl
theorem sns_loop {tg : Tg} {it : Ir} {body : Sts} {t i' : Expr} {sb : List Stmt} (hp : PassesOwn (model X.prog X.w) X.A X.env X.xe) (hc : X.calm = true) (hi : PI X t i' (tI X.K Γ ec W it)) (hg : PG X t (tG X.K tg)) (hb : PSs X sb (tSs X.K Γ ec W body)) (hn : nbI it = true)
    (hs : ∀ x, foldedSetIterable i' X.env x = pure x) : PS X (.For t i' sb [] pos) (tS X.K Γ ec W (.loop tg it body)) := by
  refine PS.conseq (ps_for hp hc hi hg hb hs) fun D σ H h => ?_
  obtain ⟨F, O, ρ, k, en, w, kn⟩ := h
  unfold wpS at w
  refine ⟨F, O, ρ, _, _, en, w, fun ds hds J H1 s1 wk => ?_, kn.er1 en⟩
  have en1 := en.stp s1
  obtain ⟨G, Y, walk, hGR, hY⟩ := wk.2 hn
  generalize hst : (fun (d : PyData) (ρ1 : Rho) (kk : Rho → Prop) => bindT tg d ρ1 fun ρ2 => wpSs Γ body ρ2 { k with nx := kk, ct := kk, bk := k.nx }) = step at hds
  have later : ∀ {O2 : Addr → Prop} {H2 : Hp} {σ2 : L2.St} {ρ2 : Rho}, EnvR X.K (F.at O H1) O2 H2 σ2 ρ2 → Rf O H1 O2 H2 := fun e2 b o n q => en1.stood e2 n q
  have kn' : Kon X.K ec W (F.at O H1) k D := ⟨fun ρ' h O' σ' H' e' => kn.nx ρ' h O' σ' H' (en1.back e'), fun d h O' σ' H' ρ' v e' hd => kn.rt d h O' σ' H' ρ' v (en1.back e') hd, fun ρ' h O' σ' H' e' => kn.bk ρ' h O' σ' H' (en1.back e'),
    fun ρ' h O' σ' H' e' => kn.ct ρ' h O' σ' H' (en1.back e'), fun x ρ' h O' σ' H' e' => kn.er x ρ' h O' σ' H' (en1.back e')⟩
  refine for_it walk (fun i σ' H' => ∃ O' ρ', EnvR X.K (F.at O H1) O' H' σ' ρ' ∧ forW step (ds.drop i) ρ' k.nx) ⟨O, ρ, en1.into, by rw [List.drop_zero]; exact hds⟩ ?_ ?_ ?_
  · rintro i σ' H' _ ⟨O', ρ', e2, _⟩
    exact hGR _ _ (later e2)
  · rintro i x σ' H' H'' hi' ⟨O', ρ', e2, hf⟩ y
    obtain ⟨sm, d, hd, hdr⟩ := hY _ _ i x H'' (later e2) e2.dom hi' y
    have e3 := e2.stp (Stp.same e2 sm)
    have edrop : ds.drop i = d :: ds.drop (i + 1) := by
      obtain ⟨h1, h2⟩ := List.getElem?_eq_some_iff.mp hd
      rw [List.drop_eq_getElem_cons h1, h2]
    rw [edrop] at hf
    unfold forW at hf
    have hf' : bindT tg d ρ' fun ρ2 => wpSs Γ body ρ2 { k with nx := fun ρ'' => forW step (ds.drop (i + 1)) ρ'' k.nx, ct := fun ρ'' => forW step (ds.drop (i + 1)) ρ'' k.nx, bk := k.nx } := by
      rw [← hst] at hf ⊢
      exact hf
    refine ⟨F.at O H1, O', ρ', d, _, e3, hdr, hf', fun ρ1 h1 σ1 on e4 => ?_⟩
    exact ⟨F.at O H1, O', ρ1, _, e4, h1, ⟨fun ρ2 h2 O2 σ2 H2 e5 => ⟨O2, ρ2, e5, h2⟩, kn'.rt, kn'.nx, fun ρ2 h2 O2 σ2 H2 e5 => ⟨O2, ρ2, e5, h2⟩, kn'.er⟩⟩
  · rintro σ' H' ⟨O', ρ', e2, hf⟩
    rw [List.drop_length] at hf
    exact kn'.nx ρ' hf O' σ' H' e2
/-- a walk over a list that the frame owns -/
theorem sns_loopb {tg : Tg} {i : Nat} {x : Str} {body : Sts} {t : Expr} {sb : List Stmt} {po : Pos} (hp : PassesOwn (model X.prog X.w) X.A X.env X.xe) (hc : X.calm = true) (hN : X.N[i]? = some x) (hv : Vis X.env.scope x) (hd : (x == ("__debug__" : Str)) = false) (hcd : (x == ("__classdict__" : Str)) = false)
    (hg : PG X t (tG X.K tg)) (hb : PSs X sb (tSs X.K Γ ec W body)) : PS X (.For t (.Name x po) sb [] pos) (tS X.K Γ ec W (.loopb tg i body)) := by
  refine PS.conseq (ps_for hp hc (pi_seq (pe_var hN hv hd hcd)) hg hb (fun x => rfl)) fun D σ H h => ?_
  obtain ⟨F, O, ρ, k, en, w, kn⟩ := h
  unfold wpS at w
  obtain ⟨ds, hi, w⟩ := owL_iff w
  obtain ⟨a, xs, g1, g2, g3, g4, en1⟩ := en.lock hi
  have w := w a xs
  generalize hst : (fun (d : PyData) (ρ1 : Rho) (kk : Rho → Prop) => lkAt ρ1 i a xs ds ∧ bindT tg d ρ1 fun ρ2 => wpSs Γ body ρ2 { k with nx := kk, ct := kk, bk := fun ρ' => lkAt ρ' i a xs ds ∧ k.nx (ρ'.set i (some (.ow (.list ds)))) }) = step at w
  refine ⟨.ref a, g1, a, rfl, .inl ⟨xs, SqL.of g2, ?_⟩⟩
  have wk : Wk X.K (fun O2 H2 => H2 a = some (.lst xs) ∧ DrA X.K O2 H2 xs ds) (Itl X.K a) ds := wk_list (fun O2 H2 r => SqL.of r.1) (fun O2 H2 r => r.2) g4.length
  obtain ⟨G, Y, walk, hGR, hY⟩ := wk
  have lkD : ∀ {O2 : Addr → Prop} {H2 : Hp} {σ2 : L2.St} {ρ2 : Rho}, EnvR X.K F O2 H2 σ2 ρ2 → lkAt ρ2 i a xs ds → H2 a = some (.lst xs) ∧ DrA X.K O2 H2 xs ds := fun e2 hl => by
    obtain ⟨v, _, _, _, _, q1, q2⟩ := e2.slot i _ hl
    exact ⟨q1, q2⟩
  have fin : ∀ ρ', (lkAt ρ' i a xs ds ∧ k.nx (ρ'.set i (some (.ow (.list ds))))) → ∀ O' σ' H', EnvR X.K F O' H' σ' ρ' → D.nx σ' H' := fun ρ' h O' σ' H' e' => kn.nx _ h.2 O' σ' H' (e'.unlock h.1)
  have lkS : ∀ (j : Nat) (ρ' : Rho), forW step (ds.drop j) ρ' (fun ρ' => lkAt ρ' i a xs ds ∧ k.nx (ρ'.set i (some (.ow (.list ds))))) → lkAt ρ' i a xs ds := fun j ρ' h => by
    cases hd : ds.drop j with
    | nil =>
      rw [hd] at h
      unfold forW at h
      exact h.1
    | cons d r =>
      rw [hd] at h
      unfold forW at h
      rw [← hst] at h
      exact h.1
  refine for_it walk (fun j σ' H' => ∃ O' ρ', EnvR X.K F O' H' σ' ρ' ∧ forW step (ds.drop j) ρ' fun ρ' => lkAt ρ' i a xs ds ∧ k.nx (ρ'.set i (some (.ow (.list ds))))) ⟨O, _, en1, by rw [List.drop_zero]; exact w⟩ ?_ ?_ ?_
  · rintro j σ' H' _ ⟨O', ρ', e2, hf⟩
    exact hGR _ _ (lkD e2 (lkS j ρ' hf))
  · rintro j x σ' H' H'' hi' ⟨O', ρ', e2, hf⟩ y
    obtain ⟨sm, d, hd, hdr⟩ := hY _ _ j x H'' (lkD e2 (lkS j ρ' hf)) e2.dom hi' y
    have e3 := e2.stp (Stp.same e2 sm)
    have edrop : ds.drop j = d :: ds.drop (j + 1) := by
      obtain ⟨h1, h2⟩ := List.getElem?_eq_some_iff.mp hd
      rw [List.drop_eq_getElem_cons h1, h2]
    rw [edrop] at hf
    unfold forW at hf
    have hf' : bindT tg d ρ' fun ρ2 => wpSs Γ body ρ2 { k with nx := fun ρ'' => forW step (ds.drop (j + 1)) ρ'' fun ρ' => lkAt ρ' i a xs ds ∧ k.nx (ρ'.set i (some (.ow (.list ds)))), ct := fun ρ'' => forW step (ds.drop (j + 1)) ρ'' fun ρ' => lkAt ρ' i a xs ds ∧ k.nx (ρ'.set i (some (.ow (.list ds)))), bk := fun ρ' => lkAt ρ' i a xs ds ∧ k.nx (ρ'.set i (some (.ow (.list ds)))) } := by
      rw [← hst] at hf ⊢
      exact hf.2
    refine ⟨F, O', ρ', d, _, e3, hdr, hf', fun ρ1 h1 σ1 on e4 => ?_⟩
    exact ⟨F, O', ρ1, _, e4, h1, ⟨fun ρ2 h2 O2 σ2 H2 e5 => ⟨O2, ρ2, e5, h2⟩, kn.rt, fun ρ2 h2 O2 σ2 H2 e5 => fin ρ2 h2 O2 σ2 H2 e5, fun ρ2 h2 O2 σ2 H2 e5 => ⟨O2, ρ2, e5, h2⟩, kn.er⟩⟩
  · rintro σ' H' ⟨O', ρ', e2, hf⟩
    rw [List.drop_length] at hf
    exact fin ρ' hf O' σ' H' e2
theorem sns_whl {t : Ex} {c : Expr} {body : Sts} {sb : List Stmt} (hp : PassesOwn (model X.prog X.w) X.A X.env X.xe) (ht : PT X c (tT X.K Γ ec W t)) (hb : PSs X sb (tSs X.K Γ ec W body)) : PS X (.While c sb [] pos) (tS X.K Γ ec W (.whl t body)) := by
  refine PS.conseq (ps_while hp ht hb) fun D σ H h => ?_
  obtain ⟨F, O, ρ, k, en, w, kn⟩ := h
  unfold wpS at w
  obtain ⟨I, ⟨m0, h0⟩, turn⟩ := w
  refine ⟨fun m σ' H' => ∃ O' ρ', EnvR X.K F O' H' σ' ρ' ∧ I m ρ', ⟨m0, O, ρ, en, h0⟩, ?_⟩
  rintro m σ' H' ⟨O', ρ', e2, hI⟩
  refine ⟨F, O', ρ', _, _, e2, turn m ρ' hI, fun d hd => ?_, kn.er1 e2⟩
  obtain ⟨c, hc, q⟩ := optQ_iff hd
  refine ⟨c, hc, fun H1 s1 => ?_⟩
  cases c with
  | true =>
    rw [if_pos rfl] at q ⊢
    refine ⟨fun σ2 H2 => ∃ O2 ρ2, EnvR X.K F O2 H2 σ2 ρ2 ∧ ∃ m', m' < m ∧ I m' ρ2, ?_, ?_⟩
    · rintro σ2 H2 ⟨O2, ρ2, e3, m', hm, hI'⟩
      exact ⟨m', hm, O2, ρ2, e3, hI'⟩
    · exact ⟨F, O', ρ', _, e2.stp s1, q, ⟨fun ρ2 h2 O2 σ2 H2 e5 => ⟨O2, ρ2, e5, h2⟩, kn.rt, kn.nx, fun ρ2 h2 O2 σ2 H2 e5 => ⟨O2, ρ2, e5, h2⟩, kn.er⟩⟩
  | false =>
    rw [if_neg Bool.false_ne_true] at q ⊢
    exact kn.nx ρ' q O' σ' H1 (e2.stp s1)
theorem sns_brk : PS X (.Break pos) (tS X.K Γ ec W .brk) := by
  refine PS.conseq ps_break fun D σ H h => ?_
  obtain ⟨F, O, ρ, k, en, w, kn⟩ := h
  unfold wpS at w
  exact kn.bk ρ w O σ H en
theorem sns_cnt : PS X (.Continue pos) (tS X.K Γ ec W .cnt) := by
  refine PS.conseq ps_continue fun D σ H h => ?_
  obtain ⟨F, O, ρ, k, en, w, kn⟩ := h
  unfold wpS at w
  exact kn.ct ρ w O σ H en
theorem sns_pss : PS X (.Pass pos) (tS X.K Γ ec W .pss) := by
  refine PS.conseq ps_pass fun D σ H h => ?_
  obtain ⟨F, O, ρ, k, en, w, kn⟩ := h
  unfold wpS at w
  exact kn.nx ρ w O σ H en
theorem sns_retn : PS X (.Return none pos) (tS X.K Γ ec W .retn) := by
  refine PS.conseq ps_retN fun D σ H h => ?_
  obtain ⟨F, O, ρ, k, en, w, kn⟩ := h
  unfold wpS at w
  exact kn.rt _ w O σ H ρ _ en .non
theorem sns_dead {st : Stmt} : PS X st (tS X.K Γ ec W .dead) := ⟨fun pins s σ H D I h => by
  obtain ⟨F, O, ρ, k, en, w, kn⟩ := h
  unfold wpS at w
  exact w.elim⟩
theorem sns_rais {C : Addr} {m : Str} {j : Nat} {p p2 pp : Pos} (hc : X.calm = true) (tk : Takes X W) (hm : X.mg x = some (.ref C)) (he : ec x = .ref C) (q : PySem.W.excIn X.K C [.type "ValueError", .type "Exception", .type "BaseException", .type "object"] "ValueError.__new__" = true) (kC : PySem.W.keepIn X.K (.ref C) = true)
    (r : Raises X (.ref C)) (hg : Gl X x) (hdb : (x == ("__debug__" : Str)) = false) : PS X (.Raise (some (.Call (.Name x p) [.Constant (.str m) j p2] [] pp)) none pos) (tS X.K Γ ec W (.rais x)) := by
  refine PS.conseq (ps_raise hc tk (pmk_own PySem.F.excBase_ValueError q hm kC r hg hdb)) fun D σ H h => ?_
  obtain ⟨F, O, ρ, k, en, w, kn⟩ := h
  unfold wpS at w
  have := kn.er x ρ w O σ H en
  rw [he] at this
  exact this
end
end DL

set_option Elab.async false
set_option linter.all false
set_option maxRecDepth 100000
set_option maxHeartbeats 16000000
namespace DL
open PySem PySem.Spec PyProof.Rows L2

section
variable {X : Cx} {G : Glb} {S : Sx} {Γ : Gam} {ec : Str → Value} {W : WX} {e : Ex} {v : Expr} {pos py : Pos} {i : Nat} {x : Str}
/-! how a value is stored -/
theorem sw_no {v : Expr} {t : Option Expr} {l : Nat} {env : Env} (h : isCmp v = false) : swapsWith v t l env = pure false := by
  cases v <;> first | rfl | (simp [isCmp] at h)
theorem sw_sole {v t : Expr} {l : Nat} {env : Env} (h : isCmp v = false) : swapsWithSole [t] v l env = pure false := sw_no h
def isTupE : Expr → Bool
  | .Tuple _ _ _ => true
  | _ => false
theorem ss_no {v : Expr} {es : List Expr} {k : Nat} {p : Pos} {env : Env} (h : isTupE v = false) : swappedStores [.Tuple es k p] v env = pure none := by
  cases v <;> first | rfl | (simp [isTupE] at h)
theorem ss_sub {v o ix : Expr} {p : Pos} {env : Env} : swappedStores [.Subscript o ix p] v env = pure none := by
  cases v <;> rfl
theorem ss_form {es vs : List Expr} {k k2 : Nat} {p p2 : Pos} {env : Env} (hsc : env.scope = S.sc) (hk : S.sc.kind = .function) : swappedStores [.Tuple es k p] (.Tuple vs k2 p2) env =
    (if (!(es.length == 2 || es.length == 3) || vs.length != es.length) = true then pure none else if (vs.any isStar) = true then pure none
      else if ((swNames S.sc es).length != es.length || (swNames S.sc es).eraseDups.length != (swNames S.sc es).length) = true then pure none
      else if vs.all (foldedForSure 8) = true then pure none else if vs.all (constantsAlone 8) = true then (do unsupported "assign.tuple-of-constant-expressions:order-of-the-stores"; pure (some (swNames S.sc es))) else pure (some (swNames S.sc es))) := by
  have hb : env.blockKind = .function := by unfold Env.blockKind; rw [hsc, hk]; rfl
  have hkd : ∀ x, env.kindOf x = S.sc.names.lookup x := fun x => by unfold Env.kindOf; rw [hsc]
  have hn : swNames S.sc es = es.filterMap fun
    | .Name id pos => if env.kindOf id == some .local && pos.line == swLine es then some id else none
    | _ => none := by
    unfold swNames
    congr 1
    funext e
    cases e <;> first | rfl | (simp only [hkd])
  rw [hn]
  unfold swappedStores
  rw [hb]
  have e0 : (ScopeKind.function != ScopeKind.function) = false := rfl
  simp only [e0, Bool.or_false]
  rfl
theorem ss_noswap {v : Expr} {es : List Expr} {k : Nat} {p : Pos} {env : Env} (hsc : env.scope = S.sc) (hk : S.sc.kind = .function) (h : noswap S es v = true) : swappedStores [.Tuple es k p] v env = pure none := by
  cases v with
  | Tuple vs k2 p2 =>
    rw [ss_form hsc hk]
    unfold noswap at h
    by_cases h1 : (!(es.length == 2 || es.length == 3) || vs.length != es.length) = true
    · rw [if_pos h1]
    · rw [if_neg h1]
      by_cases h2 : (vs.any isStar) = true
      · rw [if_pos h2]
      · rw [if_neg h2]
        by_cases h3 : ((swNames S.sc es).length != es.length || (swNames S.sc es).eraseDups.length != (swNames S.sc es).length) = true
        · rw [if_pos h3]
        · rw [if_neg h3]
          by_cases h4 : vs.all (foldedForSure 8) = true
          · rw [if_pos h4]
          · exfalso
            rw [Bool.or_eq_true, Bool.or_eq_true, Bool.or_eq_true] at h
            rcases h with ((h | h) | h) | h
            · exact h1 h
            · exact h2 h
            · exact h3 h
            · exact h4 h
  | _ => exact ss_no rfl
theorem ss_swap {ts : Tgs} {es : List Expr} {k : Nat} {p : Pos} {env : Env} (hsc : env.scope = S.sc) (hk : S.sc.kind = .function) (h : swap2 S ts es e v = true) :
    ∃ (i j : Nat) (x y : Str) (px py : Pos) (a b : Ex) (ea eb : Expr) (k2 : Nat) (p2 : Pos), ts = .cons (.n i) (.cons (.n j) .nil) ∧ es = [.Name x px, .Name y py] ∧ e = .tup (.cons a (.cons b .nil)) ∧ v = .Tuple [ea, eb] k2 p2 ∧ i ≠ j ∧ S.sc.names.lookup x = some .local ∧ S.sc.names.lookup y = some .local ∧
      starred ea = false ∧ starred eb = false ∧ swappedStores [.Tuple es k p] v env = pure (some [x, y]) := by
  unfold swap2 at h
  split at h
  · rename_i i j x px y py a b ea eb k2 p2
    simp only [Bool.and_eq_true, decide_eq_true_eq] at h
    obtain ⟨⟨⟨⟨⟨⟨⟨⟨h1, h2⟩, h3⟩, h4⟩, h5⟩, h6⟩, h7⟩, h8⟩, h9⟩ := h
    refine ⟨i, j, x, y, px, py, a, b, ea, eb, k2, p2, rfl, rfl, rfl, rfl, h5, h1, h2, by simpa using h6, by simpa using h7, ?_⟩
    rw [ss_form hsc hk, h3]
    have s1 : isStar ea = false := by cases ea <;> first | rfl | (simp [starred] at h6)
    have s2 : isStar eb = false := by cases eb <;> first | rfl | (simp [starred] at h7)
    have h8' : ([ea, eb].all (foldedForSure 8)) = false := by rw [Bool.not_eq_true'] at h8; exact h8
    have h9' : ([ea, eb].all (constantsAlone 8)) = false := by rw [Bool.not_eq_true'] at h9; exact h9
    rw [if_neg (by simp), if_neg (by simp [s1, s2]), if_neg (by rw [h4]; simp), if_neg (by rw [h8']; decide), if_neg (by rw [h9']; decide)]
  · cases h
/-! try -/
def constV : D → V
  | .int i => .int i
  | .bool b => .bl b
  | .str s => .str s
  | _ => .non
theorem pe_const {X : Cx} {d : D} (hc : constD e = some d) (h : mtE Γ S e v = true) : PE X v (L2.tC (constV d)) ∧ ∀ K O H, Dr K O H (constV d) d := by
  cases e with
  | int i =>
    cases v with
    | Constant c k p =>
      cases c with
      | int j => simp only [mtE, decide_eq_true_eq] at h; subst h; cases hc; exact ⟨pe_int, fun _ _ _ => .int i⟩
      | _ => simp [mtE] at h
    | _ => simp [mtE] at h
  | bl i =>
    cases v with
    | Constant c k p =>
      cases c with
      | bool j => simp only [mtE, beq_iff_eq] at h; subst h; cases hc; exact ⟨pe_bl, fun _ _ _ => .bl i⟩
      | _ => simp [mtE] at h
    | _ => simp [mtE] at h
  | non =>
    cases v with
    | Constant c k p =>
      cases c with
      | none => cases hc; exact ⟨pe_non, fun _ _ _ => .non⟩
      | _ => simp [mtE] at h
    | _ => simp [mtE] at h
  | str i =>
    cases v with
    | Constant c k p =>
      cases c with
      | str j => simp only [mtE, decide_eq_true_eq] at h; subst h; cases hc; exact ⟨pe_str, fun _ _ _ => .str i⟩
      | _ => simp [mtE] at h
    | _ => simp [mtE] at h
  | _ => simp [constD] at hc
theorem sns_try {body : Sts} {c : Ex} {d : D} {sb : List Stmt} {np p1 p2 : Pos} {r : Expr} {cx : Addr} (hs : X.stack = X.env :: X.outer) (hf : X.env.frame = some X.env.locals) (tk : Takes X W) (hm : X.mg x = some (.ref cx)) (hec : ec x = .ref cx) (hg : Gl X x) (hdb : (x == ("__debug__" : Str)) = false)
    (hone : ∀ y ∈ Γ.exs, PySem.W.exmOne X.K (ec y) (ec x) = some (decide (y = x)))
    (hb : ∀ (W2 : WX) (pn : List (Addr × Obj)) (xe : Value → Shared → Prop), Takes (X.tr pn xe) W2 → PassesOwn (model X.prog X.w) X.A X.env xe → PSs (X.tr pn xe) sb (tSs X.K Γ ec W2 body))
    (hd : constD c = some d) (hr : mtE Γ S c r = true) :
    PS X (.Try sb [.ExceptHandler (some (.Name x np)) none [.Return (some r) p1] p2] [] [] pos) (tS X.K Γ ec W (.try1 body x c)) := by
  refine PS.conseq (ps_try_only (ts := fun _ _ _ => tRet (L2.tC (constV d))) hs hf (c := .ref cx) ⟨hg, hdb, .inl hm⟩ tk hb (fun a oe cls dd pn _ _ => pss_one (ps_ret (pe_const hd hr).1))) fun D σ H h => ?_
  obtain ⟨F, O, ρ, k, en, w, kn⟩ := h
  unfold wpS at w
  refine ⟨F, O, ρ, _, en, w, ⟨kn.nx, kn.rt, kn.bk, kn.ct, fun y ρ' hy O' σ' H' en' => ?_⟩⟩
  obtain ⟨hy1, hy2⟩ := hy
  have h1 := hone y hy1
  rw [hec] at h1
  refine ⟨decide (y = x), h1, fun b a na => ?_, fun b => ?_⟩
  · rw [if_pos (of_decide_eq_true b)] at hy2
    rw [hd] at hy2
    exact kn.rt d hy2 O' σ' H' ρ' _ en' ((pe_const (X := X) hd hr).2 _ _ _)
  · rw [if_neg (of_decide_eq_false b)] at hy2
    exact kn.er y ρ' hy2 O' σ' H' en'
end
section
variable {G : Glb}
theorem isFrz_of {s : DL.St} (h : isFrz s = true) : ∃ i, s = .frz i := by
  cases s <;> first | (simp [isFrz] at h; done) | exact ⟨_, rfl⟩
theorem any_of {f : Str} {l : List Str} (h : (l.any fun g => decide (g = f)) = true) : f ∈ l := by
  rw [List.any_eq_true] at h
  obtain ⟨x, h1, h2⟩ := h
  have e := of_decide_eq_true h2
  subst e
  exact h1
theorem AtS.slot {S : Sx} {X : Cx} (h : AtS G S X) {i : Nat} {x : Str} {p : Pos} (q : slotB S i (.Name x p) = true) : X.N[i]? = some x ∧ Loc X.env.scope x ∧ (X.fn x = true ∨ X.env.scope.names.lookup x = some .local) ∧ Vis X.env.scope x ∧ (x == ("__debug__" : Str)) = false ∧ (x == ("__classdict__" : Str)) = false := by
  simp only [slotB, Bool.and_eq_true, decide_eq_true_eq] at q
  obtain ⟨⟨q1, q2⟩, q3⟩ := q
  obtain ⟨l1, l2⟩ := locB_of q2
  obtain ⟨n1, n2⟩ := nm_of q3
  rw [← h.at_.sc] at l1 l2
  rw [← h.at_.fn] at l2
  exact ⟨by rw [h.at_.N]; exact q1, l1, l2, l1.elim .inl fun z => .inr (.inl z), n1, n2⟩
theorem slotB_name {S : Sx} {i : Nat} {o : Expr} (h : slotB S i o = true) : ∃ x p, o = .Name x p := by
  cases o with
  | Name x p => exact ⟨x, p, rfl⟩
  | _ => simp [slotB] at h
theorem aug_ok {e : Expr} (h : isSlice e = false) : ∀ ov iv new, augStore e ov iv new = (do holding [new, ov, iv] (setItem ov iv new); release [new, ov, iv] []; pure .next) := by
  intro ov iv new
  cases e <;> first | rfl | (simp [isSlice] at h)
theorem AtS.tr {S : Sx} {X : Cx} (h : AtS G S X) (pn : List (Addr × Obj)) (xe : Value → Shared → Prop) (hp : PassesOwn (model X.prog X.w) X.A X.env xe) : AtS G S (X.tr pn xe) where
  at_ := ⟨⟨h.at_.ok.prog, h.at_.ok.w, h.at_.ok.K, h.at_.ok.mg, h.at_.ok.base, h.at_.ok.calm, h.at_.ok.room, h.at_.ok.nd⟩, h.at_.N, h.at_.sc, h.at_.fn⟩
  stk := h.stk
  frm := h.frm
  kind := h.kind
  psn := hp
/-- name = e, whatever the expression -/
theorem snd_asg (g : GOk G) {S : Sx} {X : Cx} {W : WX} (h : AtS G S X) (tk : Takes X W) (o : Bool) {i : Nat} {x : Str} {py : Pos} {e : Ex} {v : Expr} {pos : Pos} (hs : slotB S i (.Name x py) = true) (he : mtE G.Γ S e v = true) (hn : nb e = true) (hf : o = true → frs e = true) (ha : asgB S x py v = true) :
    PS X (.Assign [.Name x py] v pos) (tS X.K G.Γ G.ec W (if o = true then .own i e else .set i e)) := by
  obtain ⟨s1, s2, s3, s4, s5, s6⟩ := h.slot hs
  have i1 := sndE g e v X S W h.at_ tk he
  have plain : swapsWith v (some (.Name x py)) pos.line X.env = pure false → PS X (.Assign [.Name x py] v pos) (tS X.K G.Γ G.ec W (if o = true then .own i e else .set i e)) := fun q => by
    cases o with
    | true => exact sns_own h.at_.ok.nd s1 s2 s3 i1.pe (hf rfl) q
    | false => exact sns_set h.at_.ok.nd s1 s2 s3 i1.pe hn q
  by_cases hc : isCmp v = false
  · exact plain (sw_no hc)
  · cases v with
    | ListComp xe gs scope p2 =>
      unfold asgB at ha
      simp only at ha
      split at ha
      · rename_i hl
        rw [Bool.and_eq_true] at ha
        have hy : X.env.scope.names.lookup x = some .local := by rw [h.at_.sc]; exact hl
        have hsw : swapsWith (.ListComp xe gs scope p2) (some (.Name x py)) pos.line X.env = pure true := sw_true (by rw [h.at_.sc]; exact h.kind) hy ha.1 (by simpa using ha.2)
        cases e with
        | comp own elt tg it ifs =>
          match gs, he, hsw with
          | [], he, _ => simp [mtE] at he
          | [⟨_, _, _, _⟩, ⟨_, _, _, _⟩], he, _ => simp [mtE] at he
          | _ :: _ :: _ :: _, he, _ => simp [mtE] at he
          | [⟨t, i', cs, n⟩], he, hsw =>
            simp only [mtE, Bool.and_eq_true, decide_eq_true_eq] at he
            obtain ⟨⟨⟨⟨⟨⟨⟨rfl, h1⟩, h2⟩, h3⟩, h4⟩, h5⟩, h6⟩, h7⟩ := he
            have h1' : blkC X.N X.env.scope scope own = true := by rw [h.at_.N, h.at_.sc]; exact h1
            exact sns_setLc o h.at_.ok.calm h.at_.ok.nd s1 hy hsw (sndI g it i' t X S W h.at_ tk tg (blkS S scope) h3 h4) (blkOk_by h1') (own_of h2) h6
              (fun s H C cl fp => (h.at_.blk s H scope C cl fp).tgt h3)
              (fun s H C cl fp => sndC g ifs cs _ _ _ (h.at_.blk s H scope C cl fp) takes0 h7)
              (fun s H C cl fp => (sndE g elt xe _ _ _ (h.at_.blk s H scope C cl fp) takes0 h5).pe)
              (foldS (mtI_set h4))
        | comp2 own elt tg it ifs tg1 it1 ifs1 =>
          match gs, he, hsw with
          | [], he, _ => simp [mtE] at he
          | [⟨_, _, _, _⟩], he, _ => simp [mtE] at he
          | _ :: _ :: _ :: _, he, _ => simp [mtE] at he
          | [⟨t, i', cs, n⟩, ⟨t1, i1', cs1, n1⟩], he, hsw =>
            simp only [mtE, Bool.and_eq_true, decide_eq_true_eq] at he
            obtain ⟨⟨⟨⟨⟨⟨⟨⟨⟨⟨⟨⟨⟨rfl, rfl⟩, h1⟩, h2⟩, h3⟩, h4⟩, h5⟩, h6⟩, h7⟩, h8⟩, h9⟩, h10⟩, h11⟩, h12⟩ := he
            have h1' : blkC X.N X.env.scope scope own = true := by rw [h.at_.N, h.at_.sc]; exact h1
            exact sns_setLc2 o h.at_.ok.calm h.at_.ok.nd s1 hy hsw (sndI g it i' t X S W h.at_ tk tg (blkS S scope) h4 h5) (blkOk_by h1') (own_of h2) (own_of h3) h12 h9
              (fun s H C cl fp => (h.at_.blk s H scope C cl fp).tgt h4)
              (fun s H C cl fp => sndC g ifs cs _ _ _ (h.at_.blk s H scope C cl fp) takes0 h6)
              (fun s H C cl fp => sndI g it1 i1' t1 _ (blkS S scope) _ (h.at_.blk s H scope C cl fp) takes0 tg1 (blkS S scope) h7 h8)
              (fun s H C cl fp => (h.at_.blk s H scope C cl fp).tgt h7)
              (fun s H C cl fp => sndC g ifs1 cs1 _ _ _ (h.at_.blk s H scope C cl fp) takes0 h10)
              (fun s H C cl fp => (sndE g elt xe _ _ _ (h.at_.blk s H scope C cl fp) takes0 h11).pe)
              (foldS (mtI_set h5)) (fun env => foldS (mtI_set h8))
        | _ => simp [mtE] at he
      · rename_i hl
        refine plain ?_
        have hk : X.env.kindOf x = some .cell := by unfold Env.kindOf; rw [h.at_.sc]; exact hl
        unfold swapsWith
        simp only [hk]
        have : (some NameKind.cell == some NameKind.local) = false := rfl
        rw [this]
        simp
      · cases ha
    | _ => exact absurd ha (by simp [asgB]; simpa using hc)
end
end DL

set_option Elab.async false
set_option linter.all false
set_option maxRecDepth 100000
set_option maxHeartbeats 16000000
namespace DL
open PySem PySem.Spec PyProof.Rows L2
theorem assign_sub {e : Expr} {x : Str} {po ps : Pos} {env : Env} (h : isSlice e = false) : ∀ v, assign (.Subscript (.Name x po) e ps) env v = (do
    let ov ← holding [v] (eval (.Name x po) env)
    let iv ← holding [v, ov] (eval e env)
    standAt ps
    holding [v, ov, iv] (setItem ov iv v)
    release [v, ov, iv] []) := by
  intro v
  cases e <;> first | rfl | (simp [isSlice] at h)
theorem raisOf_eq {ex cause : Option Expr} {x : Str} (h : raisOf ex cause = some x) : ∃ p m j p2 pp, ex = some (.Call (.Name x p) [.Constant (.str m) j p2] [] pp) ∧ cause = none := by
  unfold raisOf at h
  split at h
  · cases h
    exact ⟨_, _, _, _, _, rfl, rfl⟩
  · cases h
theorem tryOf_eq {hs : List ExceptHandler} {oe fb : List Stmt} {y : Str} {r : Expr} (h : tryOf hs oe fb = some (y, r)) : ∃ np p1 p2, hs = [.ExceptHandler (some (.Name y np)) none [.Return (some r) p1] p2] ∧ oe = [] ∧ fb = [] := by
  unfold tryOf at h
  split at h
  · cases h
    exact ⟨_, _, _, rfl, rfl, rfl⟩
  · cases h
set_option maxHeartbeats 64000000 in
mutual
theorem sndS {G : Glb} (g : GOk G) (eo : EOk G) : ∀ (s : DL.St) (st : Stmt) (X : Cx) (S : Sx) (W : WX), AtS G S X → Takes X W → mtS G.Γ S s st = true → PS X st (tS X.K G.Γ G.ec W s)
  | .set i e, st, X, S, W, a, tk, h => by
    cases st with
    | Assign ts v pos =>
      cases ts with
      | nil => simp [mtS] at h
      | cons t r =>
        cases r with
        | cons _ _ => cases t <;> simp [mtS] at h
        | nil =>
          cases t with
          | Name x py =>
            simp only [mtS, Bool.and_eq_true] at h
            exact snd_asg g a tk false h.1.1.1 h.1.1.2 h.1.2 (fun q => by cases q) h.2
          | _ => simp [mtS] at h
    | _ => simp [mtS] at h
  | .own i e, st, X, S, W, a, tk, h => by
    cases st with
    | Assign ts v pos =>
      cases ts with
      | nil => simp [mtS] at h
      | cons t r =>
        cases r with
        | cons _ _ => cases t <;> simp [mtS] at h
        | nil =>
          cases t with
          | Name x py =>
            simp only [mtS, Bool.and_eq_true] at h
            exact snd_asg g a tk true h.1.1.1.1 h.1.1.1.2 h.1.2 (fun _ => h.1.1.2) h.2
          | _ => simp [mtS] at h
    | _ => simp [mtS] at h
  | .unp ts e, st, X, S, W, a, tk, h => by
    cases st with
    | Assign tt v pos =>
      cases tt with
      | nil => simp [mtS] at h
      | cons t r =>
        cases r with
        | cons _ _ => cases t <;> simp [mtS] at h
        | nil =>
          cases t with
          | Tuple es kk tp =>
            simp only [mtS, Bool.and_eq_true, Bool.or_eq_true] at h
            obtain ⟨⟨⟨⟨h1, h2⟩, h3⟩, h4⟩, h5⟩ := h
            have hc : isCmp v = false := by simpa using h4
            rcases h5 with h5 | h5
            · obtain ⟨i, j, x, y, px, py, ea', eb', ea, eb, k2, p2, rfl, rfl, rfl, rfl, hij, hx, hy, sa, sb, hw⟩ := ss_swap (k := kk) (p := tp) (env := X.env) a.at_.sc a.kind h5
              simp only [mtTs, mtT, Bool.and_eq_true, decide_eq_true_eq] at h1
              simp only [mtE, mtX, Bool.and_eq_true] at h2
              simp only [nbX, Bool.and_eq_true] at h2
              refine sns_par a.at_.ok.calm a.at_.ok.nd (by rw [a.at_.N]; exact h1.1.1) (by rw [a.at_.N]; exact h1.2.1.1) hij (by rw [a.at_.sc]; exact hx) (by rw [a.at_.sc]; exact hy)
                (sndE g _ _ X S W a.at_ tk h2.1.1.1.1).pe (sndE g _ _ X S W a.at_ tk h2.1.1.1.2.1).pe h2.1.1.2.1 h2.1.1.2.2.1 sa sb hw
            · exact sns_unp (a.at_.tgt (t := .t ts) (by simpa only [mtT] using h1)) (sndE g e v X S W a.at_ tk h2).pe h3 (sw_sole hc) (ss_noswap a.at_.sc a.kind h5)
          | _ => simp [mtS] at h
    | _ => simp [mtS] at h
  | .frz i, st, X, S, W, a, tk, h => by cases st <;> simp [mtS] at h
  | .aug i op e, st, X, S, W, a, tk, h => by
    cases st with
    | AugAssign t op' v pos =>
      cases t with
      | Name x py =>
        simp only [mtS, Bool.and_eq_true, decide_eq_true_eq] at h
        obtain ⟨⟨⟨h1, rfl⟩, h3⟩, h4⟩ := h
        obtain ⟨s1, s2, s3, s4, s5, s6⟩ := a.slot h1
        exact sns_aug a.at_.ok.nd s1 s2 s3 (sndE g e v X S W a.at_ tk h3).pe
      | _ => simp [mtS] at h
    | _ => simp [mtS] at h
  | .put i ix e, st, X, S, W, a, tk, h => by
    cases st with
    | Assign tt v pos =>
      cases tt with
      | nil => simp [mtS] at h
      | cons t r =>
        cases r with
        | cons _ _ => cases t <;> simp [mtS] at h
        | nil =>
          cases t with
          | Subscript o eix ps =>
            simp only [mtS, Bool.and_eq_true] at h
            obtain ⟨⟨⟨⟨h1, h2⟩, h3⟩, h4⟩, h5⟩ := h
            obtain ⟨x, po, rfl⟩ := slotB_name h1
            obtain ⟨s1, s2, s3, s4, s5, s6⟩ := a.slot h1
            have hc : isCmp v = false := by simpa using h5
            exact sns_put (sndE g e v X S W a.at_ tk h3).pe h4 (sw_sole hc) ss_sub (pg_sub (pe_var s1 s4 s5 s6) (sndE g ix eix X S W a.at_ tk h2).pe set_list (assign_sub (mtE_slice h2)))
          | _ => simp [mtS] at h
    | _ => simp [mtS] at h
  | .augp i ix op e, st, X, S, W, a, tk, h => by
    cases st with
    | AugAssign t op' v pos =>
      cases t with
      | Subscript o eix ps =>
        simp only [mtS, Bool.and_eq_true, decide_eq_true_eq] at h
        obtain ⟨⟨⟨⟨⟨h1, h2⟩, rfl⟩, h3⟩, h4⟩, h5⟩ := h
        obtain ⟨x, po, rfl⟩ := slotB_name h1
        obtain ⟨s1, s2, s3, s4, s5, s6⟩ := a.slot h1
        exact sns_augp s1 s4 s5 s6 (sndE g ix eix X S W a.at_ tk h2).pe (sndE g e v X S W a.at_ tk h3).pe (aug_ok (mtE_slice h2))
      | _ => simp [mtS] at h
    | _ => simp [mtS] at h
  | .app i e, st, X, S, W, a, tk, h => by
    cases st with
    | Expr c pos =>
      cases c with
      | Call f as kw cp =>
        cases f with
        | Attribute o m ap =>
          match as, kw, h with
          | [v], [], h =>
            simp only [mtS, Bool.and_eq_true, decide_eq_true_eq] at h
            obtain ⟨⟨⟨⟨rfl, h2⟩, h3⟩, h4⟩, h5⟩ := h
            obtain ⟨x, po, rfl⟩ := slotB_name h2
            obtain ⟨s1, s2, s3, s4, s5, s6⟩ := a.slot h2
            exact sns_app s1 s4 s5 s6 (sndE g e v X S W a.at_ tk h3).pe h4 (mtE_star h3) h5
          | [], _, h => simp [mtS] at h
          | [_], _ :: _, h => simp [mtS] at h
          | _ :: _ :: _, _, h => simp [mtS] at h
        | _ => simp [mtS] at h
      | _ => simp [mtS] at h
    | _ => simp [mtS] at h
  | .ext i e, st, X, S, W, a, tk, h => by
    cases st with
    | Expr c pos =>
      cases c with
      | Call f as kw cp =>
        cases f with
        | Attribute o m ap =>
          match as, kw, h with
          | [v], [], h =>
            simp only [mtS, Bool.and_eq_true, decide_eq_true_eq] at h
            obtain ⟨⟨⟨⟨rfl, h2⟩, h3⟩, h4⟩, h5⟩ := h
            obtain ⟨x, po, rfl⟩ := slotB_name h2
            obtain ⟨s1, s2, s3, s4, s5, s6⟩ := a.slot h2
            exact sns_ext s1 s4 s5 s6 (sndE g e v X S W a.at_ tk h3).pe h4 (mtE_star h3) h5
          | [], _, h => simp [mtS] at h
          | [_], _ :: _, h => simp [mtS] at h
          | _ :: _ :: _, _, h => simp [mtS] at h
        | _ => simp [mtS] at h
      | _ => simp [mtS] at h
    | _ => simp [mtS] at h
  | .expr e, st, X, S, W, a, tk, h => by
    cases st with
    | Expr v pos =>
      simp only [mtS, Bool.and_eq_true] at h
      exact sns_expr (sndE g e v X S W a.at_ tk h.1).pe (sw_no (by simpa using h.2))
    | _ => simp [mtS] at h
  | .ret e, st, X, S, W, a, tk, h => by
    cases st with
    | Return v pos =>
      cases v with
      | some v => exact sns_ret (sndE g e v X S W a.at_ tk (by simpa only [mtS] using h)).pe
      | none => simp [mtS] at h
    | _ => simp [mtS] at h
  | .ife t x y, st, X, S, W, a, tk, h => by
    cases st with
    | If c sx sy pos =>
      simp only [mtS, Bool.and_eq_true] at h
      exact sns_ife ((sndE g t c X S W a.at_ tk h.1.1.1).pt h.1.1.2) (sndSs g eo x sx X S W a tk h.1.2) (sndSs g eo y sy X S W a tk h.2)
    | _ => simp [mtS] at h
  | .loop tg it body, st, X, S, W, a, tk, h => by
    cases st with
    | For t i sb oe pos =>
      cases oe with
      | cons _ _ => simp [mtS] at h
      | nil =>
        simp only [mtS, Bool.and_eq_true] at h
        exact sns_loop a.psn a.at_.ok.calm (sndI g it i t X S W a.at_ tk tg S h.1.1.1 h.1.1.2) (a.at_.tgt h.1.1.1) (sndSs g eo body sb X S W a tk h.2) h.1.2 (foldS (mtI_set h.1.1.2))
    | _ => simp [mtS] at h
  | .loopb tg i body, st, X, S, W, a, tk, h => by
    cases st with
    | For t o sb oe pos =>
      cases oe with
      | cons _ _ => simp [mtS] at h
      | nil =>
        simp only [mtS, Bool.and_eq_true] at h
        obtain ⟨⟨h1, h2⟩, h3⟩ := h
        obtain ⟨x, po, rfl⟩ := slotB_name h2
        obtain ⟨s1, s2, s3, s4, s5, s6⟩ := a.slot h2
        exact sns_loopb a.psn a.at_.ok.calm s1 s4 s5 s6 (a.at_.tgt h1) (sndSs g eo body sb X S W a tk h3)
    | _ => simp [mtS] at h
  | .whl t body, st, X, S, W, a, tk, h => by
    cases st with
    | While c sb oe pos =>
      cases oe with
      | cons _ _ => simp [mtS] at h
      | nil =>
        simp only [mtS, Bool.and_eq_true] at h
        exact sns_whl a.psn ((sndE g t c X S W a.at_ tk h.1.1).pt h.1.2) (sndSs g eo body sb X S W a tk h.2)
    | _ => simp [mtS] at h
  | .rais n, st, X, S, W, a, tk, h => by
    cases st with
    | Raise ex cause pos =>
      simp only [mtS] at h
      split at h
      · rename_i x hq
        obtain ⟨p, m, j, p2, pp, rfl, rfl⟩ := raisOf_eq hq
        simp only [Bool.and_eq_true, decide_eq_true_eq] at h
        obtain ⟨⟨rfl, h2⟩, h3⟩ := h
        obtain ⟨hg, hdb⟩ := a.at_.gl h2
        obtain ⟨C, E⟩ := eo.ex x (any_of h3)
        have hK := a.at_.ok.K
        exact sns_rais a.at_.ok.calm tk (by rw [a.at_.ok.mg]; exact E.mg) E.ec (by rw [hK]; exact E.ex) (by rw [hK]; exact E.kp) (raises_own (by rw [hK]; exact E.sub) (by rw [hK]; exact E.ty)) hg hdb
      · cases h
    | _ => simp [mtS] at h
  | .try1 body n c, st, X, S, W, a, tk, h => by
    cases st with
    | Try sb hs oe fb pos =>
      simp only [mtS] at h
      split at h
      · rename_i y r hq
        simp only [Bool.and_eq_true, decide_eq_true_eq] at h
        obtain ⟨⟨⟨⟨⟨rfl, h2⟩, h3⟩, h4⟩, h5⟩, h6⟩ := h
        obtain ⟨np, p1, p2, rfl, rfl, rfl⟩ := tryOf_eq hq
        obtain ⟨hg, hdb⟩ := a.at_.gl h2
        obtain ⟨C, E⟩ := eo.ex y (any_of h3)
        obtain ⟨d, hd⟩ := Option.isSome_iff_exists.mp h6
        exact sns_try a.stk a.frm tk (by rw [a.at_.ok.mg]; exact E.mg) E.ec hg hdb (fun z hz => by rw [a.at_.ok.K]; exact eo.one z hz y (any_of h3))
          (fun W2 pn xe tk2 ps2 => sndSs g eo body sb (X.tr pn xe) S W2 (a.tr pn xe ps2) tk2 h4) hd h5
      · cases h
    | _ => simp [mtS] at h
  | .brk, st, X, S, W, a, tk, h => by
    cases st with
    | Break p => exact sns_brk
    | _ => simp [mtS] at h
  | .cnt, st, X, S, W, a, tk, h => by
    cases st with
    | Continue p => exact sns_cnt
    | _ => simp [mtS] at h
  | .pss, st, X, S, W, a, tk, h => by
    cases st with
    | Pass p => exact sns_pss
    | _ => simp [mtS] at h
  | .retn, st, X, S, W, a, tk, h => by
    cases st with
    | Return v p =>
      cases v with
      | none => exact sns_retn
      | some v => simp [mtS] at h
    | _ => simp [mtS] at h
  | .dnew i, st, X, S, W, a, tk, h => by
    cases st with
    | Assign ts v pos =>
      match ts, v, h with
      | [.Name x py], .Dict [] [] p2, h =>
        simp only [mtS] at h
        obtain ⟨s1, s2, s3, s4, s5, s6⟩ := a.slot h
        exact sns_dnew a.at_.ok.nd s1 s2 s3
    | _ => simp [mtS] at h
  | .dput i ke e, st, X, S, W, a, tk, h => by
    cases st with
    | Assign tt v pos =>
      cases tt with
      | nil => simp [mtS] at h
      | cons t r =>
        cases r with
        | cons _ _ => cases t <;> simp [mtS] at h
        | nil =>
          cases t with
          | Subscript o ek ps =>
            simp only [mtS, Bool.and_eq_true] at h
            obtain ⟨⟨⟨⟨⟨h1, h2⟩, h3⟩, h4⟩, h5⟩, h6⟩ := h
            obtain ⟨x, po, rfl⟩ := slotB_name h1
            obtain ⟨s1, s2, s3, s4, s5, s6⟩ := a.slot h1
            have hc : isCmp v = false := by simpa using h6
            exact sns_dput (sndE g e v X S W a.at_ tk h3).pe h4 h5 (sw_sole hc) ss_sub (pg_sub (pe_var s1 s4 s5 s6) (sndE g ke ek X S W a.at_ tk h2).pe (set_dictN a.at_.ok.hu) (assign_sub (mtE_slice h2)))
          | _ => simp [mtS] at h
    | _ => simp [mtS] at h
  | .ins i ix e, st, X, S, W, a, tk, h => by
    cases st with
    | Expr c pos =>
      cases c with
      | Call f as kw cp =>
        cases f with
        | Attribute o m ap =>
          match as, kw, h with
          | [ei, v], [], h =>
            simp only [mtS, Bool.and_eq_true, decide_eq_true_eq] at h
            obtain ⟨⟨⟨⟨⟨rfl, h2⟩, h3⟩, h4⟩, h5⟩, h6⟩ := h
            obtain ⟨x, po, rfl⟩ := slotB_name h2
            obtain ⟨s1, s2, s3, s4, s5, s6⟩ := a.slot h2
            exact sns_ins s1 s4 s5 s6 (sndE g ix ei X S W a.at_ tk h3).pe (sndE g e v X S W a.at_ tk h4).pe h5 (mtE_star h3) (mtE_star h4) h6
          | [], _, h => simp [mtS] at h
          | [_], _, h => simp [mtS] at h
          | [_, _], _ :: _, h => simp [mtS] at h
          | _ :: _ :: _ :: _, _, h => simp [mtS] at h
        | _ => simp [mtS] at h
      | _ => simp [mtS] at h
    | _ => simp [mtS] at h
  | .rem i e, st, X, S, W, a, tk, h => by
    cases st with
    | Expr c pos =>
      cases c with
      | Call f as kw cp =>
        cases f with
        | Attribute o m ap =>
          match as, kw, h with
          | [v], [], h =>
            simp only [mtS, Bool.and_eq_true, decide_eq_true_eq] at h
            obtain ⟨⟨⟨⟨rfl, h2⟩, h3⟩, h4⟩, h5⟩ := h
            obtain ⟨x, po, rfl⟩ := slotB_name h2
            obtain ⟨s1, s2, s3, s4, s5, s6⟩ := a.slot h2
            exact sns_rem a.at_.ok.hu s1 s4 s5 s6 (sndE g e v X S W a.at_ tk h3).pe h4 (mtE_star h3) h5
          | [], _, h => simp [mtS] at h
          | [_], _ :: _, h => simp [mtS] at h
          | _ :: _ :: _, _, h => simp [mtS] at h
        | _ => simp [mtS] at h
      | _ => simp [mtS] at h
    | _ => simp [mtS] at h
  | .dead, st, X, S, W, a, tk, h => sns_dead
theorem sndSs {G : Glb} (g : GOk G) (eo : EOk G) : ∀ (ss : Sts) (sts : List Stmt) (X : Cx) (S : Sx) (W : WX), AtS G S X → Takes X W → mtSs G.Γ S ss sts = true → PSs X sts (tSs X.K G.Γ G.ec W ss)
  | .nil, sts, X, S, W, a, tk, h => by
    cases sts with
    | nil => exact sns_nil
    | cons _ _ => simp [mtSs] at h
  | .cons s ss, sts, X, S, W, a, tk, h => by
    simp only [mtSs] at h
    by_cases hf : isFrz s = true
    · rw [if_pos hf] at h
      obtain ⟨i, rfl⟩ := isFrz_of hf
      exact sns_frz (sndSs g eo ss sts X S W a tk h)
    · rw [if_neg hf] at h
      cases sts with
      | nil => cases h
      | cons st r =>
        simp only [Bool.and_eq_true] at h
        exact sns_cons (sndS g eo s st X S W a tk h.1) (sndSs g eo ss r X S W a tk h.2)
end
end DL

set_option Elab.async false
set_option linter.all false
set_option maxRecDepth 100000
set_option maxHeartbeats 4000000
namespace DL
open PySem PySem.Spec PyProof.Rows L2

/-! ### a def of the grammar -/
structure DF where
  nm : Str
  N : List Str
  ps : List Str
  body : Sts
abbrev Phi := List Sl → (D → Prop) → (Str → Prop) → Prop
def kt0 (P : D → Prop) (PE : Str → Prop) : Kt where
  nx := fun _ => P .none
  rt := P
  bk := fun _ => False
  ct := fun _ => False
  er := fun x _ => PE x
def ent (n : Nat) (as : List Sl) : Rho := as.map some ++ List.replicate (n - as.length) none
/-- the def's own meaning -/
def spW (Γ : Gam) (d : DF) : Phi := fun as P PE => as.length = d.ps.length ∧ wpSs Γ d.body (ent d.N.length as) (kt0 P PE)
def scK (N P : List Str) (sc : Scope) : Bool := (match sc.kind with
  | .function => true
  | _ => false) && (!sc.isCoroutine && (!sc.isGenerator && (decide N.Nodup && (decide (N.take P.length = P) && ((P.all fun x => visB sc x) && sc.names.all fun y => match y.2 with
    | .free => false
    | _ => true)))))
theorem scK_ok {N P : List Str} {sc : Scope} (h : scK N P sc = true) : FnScope N P sc := by
  unfold scK at h
  simp only [Bool.and_eq_true] at h
  obtain ⟨h1, h2, h3, h4, h5, h6, h7⟩ := h
  have nf : ∀ y ∈ sc.names, y.2 ≠ .free := fun y hy e => by
    have q := List.all_eq_true.mp h7 y hy
    rw [e] at q; cases q
  refine ⟨?_, by simpa using h2, by simpa using h3, of_decide_eq_true h4, of_decide_eq_true h5, fun x hx => ?_, nf⟩
  · split at h1
    · assumption
    · cases h1
  · have q := List.all_eq_true.mp h6 x hx
    unfold visB at q
    split at q
    · rename_i e; exact .inl e
    · rename_i e; exact .inr e
    · rename_i e
      exact absurd rfl (nf (x, .free) (PySem.mem_of_lookup e))
    · cases q
def sxOf (d : DF) (st : Stmt) : Sx := ⟨d.N, defScope st, fun _ => true⟩
def chkD (Γ : Gam) (d : DF) (st : Stmt) : Bool := scK d.N d.ps (defScope st) && mtSs Γ (sxOf d st) d.body (defBody st)
def Gam.add (Γ : Gam) (nm : Str) (φ : Phi) : Gam := { Γ with Φ := fun f => if f = nm then φ else Γ.Φ f, fs := nm :: Γ.fs }
def Glb.add (G : Glb) (nm : Str) (φ : Phi) : Glb := { G with k := G.k + 1, Γ := G.Γ.add nm φ }
abbrev FunS (K : PySem.W.Frag) (x : Str) (st : Stmt) (f : Addr) (fd : FuncData) : Prop := FunD K x x (defArgs st) (defBody st) (defScope st) [] [] f fd
theorem paired_len {α β : Type} {R : α → β → Prop} {as : List α} {bs : List β} (h : Paired R as bs) : as.length = bs.length := by
  induction h with
  | nil => rfl
  | cons _ _ ih => simp [ih]
theorem paired_get {α β : Type} {R : α → β → Prop} {as : List α} {bs : List β} (h : Paired R as bs) : ∀ (i : Nat) (b : β), bs[i]? = some b → ∃ a, as[i]? = some a ∧ R a b := by
  induction h with
  | nil => intro i b q; simp at q
  | cons h1 _ ih =>
    intro i b q
    cases i with
    | zero => simp at q; exact ⟨_, rfl, q ▸ h1⟩
    | succ j => simp at q; simpa using ih j b q
theorem ent_get {n i : Nat} {as : List Sl} {s : Sl} (h : (ent n as)[i]? = some (some s)) : as[i]? = some s := by
  unfold ent at h
  rw [List.getElem?_append] at h
  split at h
  · rw [List.getElem?_map] at h
    cases q : as[i]? with
    | none => rw [q] at h; cases h
    | some t => rw [q] at h; cases h; rfl
  · rw [List.getElem?_replicate] at h
    split at h <;> cases h
theorem start_get {n : List Str} {i : Nat} {vs : List V} {v : V} (h : vs[i]? = some v) : (L2.start n vs)[i]? = some (some v) := by
  unfold L2.start
  rw [List.getElem?_append_left (by
    rw [List.length_map]
    exact (List.getElem?_eq_some_iff.mp h).1), List.getElem?_map, h]
  rfl
theorem entry {K : PySem.W.Frag} {O : Addr → Prop} {dA : Option Addr} {dC : Addr} {H : Hp} {N : List Str} {vs : List V} {as : List Sl} (dm : Dom O H) (hd : ∀ a, dA = some a → O a ∧ DrawOk K O H a dC) (hp : Paired (SlotR K ⟨O, dA, dC, H⟩ O H) vs as) :
    EnvR K ⟨O, dA, dC, H⟩ O H (L2.start N vs) (ent N.length as) where
  len := by
    unfold L2.start ent
    simp [paired_len hp]
  slot := fun i s h => by
    obtain ⟨v, h1, h2⟩ := paired_get hp i s (ent_get h)
    exact ⟨v, start_get h1, h2⟩
  sep := fun i j d e a o1 o2 q1 q2 q3 q4 => by
    obtain ⟨v, _, h⟩ := paired_get hp i _ (ent_get q1)
    cases d with
    | ow d => obtain ⟨b, _, h1, h2, _⟩ := h; exact absurd h1 h2
    | od d => obtain ⟨b, _, h1, h2, _⟩ := h; exact absurd h1 h2
    | lk _ _ _ => obtain ⟨_, h1, h2, _⟩ := h; exact absurd h1 h2
    | _ => cases o1
  sub := fun _ h => h
  dom := dm
  unp := fun a h n => absurd h n
  keep := fun _ _ _ h => h
  drw := hd
theorem EnvR.stp0 {K : PySem.W.Frag} {F : Fm} {O : Addr → Prop} {H : Hp} {σ : L2.St} {ρ : Rho} (e : EnvR K F O H σ ρ) : Stp K F F.O0 F.H0 H := ⟨e.keep, fun a h => by
  obtain ⟨h1, cells, i, cur, seed, g1, g2, g3, g4⟩ := e.drw a h
  exact ⟨cells, i, cur, seed, g1, g2, fun q => g3 (e.sub _ q), g4⟩⟩
section
variable {G : Glb}
/-- a def of the grammar keeps its meaning -/
theorem def_ok (g : GOk G) (eo : EOk G) {d : DF} {st : Stmt} {f : Addr} {fd : FuncData} (F : FunS G.K d.nm st f fd) (c : chkD G.Γ d st = true) :
    FnOk G.P G.w G.K G.mg G.base (L2.CX G.P G.w) (G.k + 1) f fd d.ps (spF G.K G.ec (spW G.Γ d)) := by
  unfold chkD at c
  rw [Bool.and_eq_true] at c
  obtain ⟨c1, c2⟩ := c
  have S : FnScope d.N d.ps (defScope st) := scK_ok c1
  refine F.ok S (fun vs H Q E h => ?_) (fun cdv A outer s H vs Q E hr h => ?_)
  · obtain ⟨O, dA, dC, as, P, PE, _, _, hp, ⟨hl, _⟩, _⟩ := h
    rw [paired_len hp, hl]
  · obtain ⟨O, dA, dC, as, P, PE, dm, hd, hp, ⟨hl, w⟩, hq, he⟩ := h
    have tk : Takes (cxOf (L2.CX G.P G.w) G.P G.w G.K G.mg G.base d.N d.nm (defScope st) f cdv A outer s H E) (fun cls dd _ H' => E cls dd H') := takes_of rfl rfl rfl rfl
    refine ⟨_, sndSs g eo d.body (defBody st) _ (sxOf d st) _ ⟨⟨⟨rfl, rfl, rfl, rfl, rfl, rfl, hr, S.nd⟩, rfl, rfl, rfl⟩, rfl, rfl, S.kind, passes_of rfl⟩ tk c2, ?_⟩
    refine ⟨⟨O, dA, dC, H⟩, O, ent d.N.length as, kt0 P PE, entry dm hd hp, w, ?_⟩
    exact {
      nx := fun ρ' h O' σ' H' en => hq _ h _ _ en.stp0 .non
      rt := fun x h O' σ' H' ρ' v en hv => hq _ h _ _ en.stp0 hv
      bk := fun ρ' h => h.elim
      ct := fun ρ' h => h.elim
      er := fun x ρ' h O' σ' H' en => he x h H' en.stp0 }
theorem spF_imp {K : PySem.W.Frag} {ec : Str → Value} {φ ψ : Phi} (h : ∀ as P PE, φ as P PE → ψ as P PE) : ∀ vs H Q E, spF K ec φ vs H Q E → spF K ec ψ vs H Q E := fun vs H Q E q => by
  obtain ⟨O, dA, dC, as, P, PE, a1, a2, a3, a4, a5⟩ := q
  exact ⟨O, dA, dC, as, P, PE, a1, a2, a3, h _ _ _ a4, a5⟩
theorem inFs_mem {Γ : Gam} {f : Str} (h : f ∈ Γ.fs) : inFs Γ f = true := List.any_eq_true.mpr ⟨f, h, decide_eq_true rfl⟩
/-- the table grows by a def (of any kind) -/
theorem GOk.grow (g : GOk G) {nm : Str} {φ : Phi} {f : Addr} {fd : FuncData} {ps : List Str} (hmg : G.mg nm = some (.ref f)) (kp : PySem.W.keepIn G.K (.ref f) = true) (b : Binds G.K fd ps [])
    (ok : FnOk G.P G.w G.K G.mg G.base (L2.CX G.P G.w) (G.k + 1) f fd ps (spF G.K G.ec φ)) : GOk (G.add nm φ) where
  fn := fun x hx => by
    show FnIn (G.add nm φ) x (if x = nm then φ else G.Γ.Φ x)
    by_cases e : x = nm
    · rw [if_pos e, e]
      exact ⟨f, fd, ps, hmg, kp, b, ok⟩
    · rw [if_neg e]
      have hx2 : x ∈ G.Γ.fs := by
        rcases List.mem_cons.mp (show x ∈ nm :: G.Γ.fs from hx) with h | h
        · exact absurd h e
        · exact h
      obtain ⟨a, fd', ps', m, k, bb, o⟩ := (g.fn x hx2).ex
      exact ⟨a, fd', ps', m, k, bb, o.mono (Nat.le_succ _)⟩
  bi := g.bi
  gcd := g.gcd
  rng := g.rng
  enm := g.enm
  zip := g.zip
  isi := g.isi
  bool := g.bool
  set := g.set
  rev := g.rev
  gl := g.gl
theorem EOk.grow (e : EOk G) {nm : Str} {φ : Phi} : EOk (G.add nm φ) := ⟨fun x h => by
  obtain ⟨C, c⟩ := e.ex x h
  exact ⟨C, c.mg, c.ec, c.ex, c.kp, c.sub, c.ty⟩, e.one⟩
/-- .. by a def of the grammar, under a promise -/
theorem GOk.add (g : GOk G) (eo : EOk G) {d : DF} {st : Stmt} {f : Addr} {fd : FuncData} (φ : Phi) (F : FunS G.K d.nm st f fd) (hmg : G.mg d.nm = some (.ref f)) (c : chkD G.Γ d st = true)
    (b : ∀ (kV doc pm : Value) (an : Option Addr) (cdv ct : Value) (us : List Value), us.length = d.ps.length → bindArgs (PySem.W.fnOf d.nm d.nm (defArgs st) (defBody st) (defScope st) .none kV doc pm an cdv ct) ⟨us, []⟩ = pure (d.ps.zip us))
    (h : ∀ as P PE, φ as P PE → spW G.Γ d as P PE) : GOk (G.add d.nm φ) := by
  exact g.grow hmg F.kp (F.bindsN b) ((def_ok g eo F c).imp (spF_imp h))
end
/-- a def of which nothing is promised (yet) -/
def φNo : Phi := fun _ _ _ => False
theorem GOk.none (g : GOk G) {nm : Str} {f : Addr} {fd : FuncData} {ps : List Str} (hmg : G.mg nm = some (.ref f)) (kp : PySem.W.keepIn G.K (.ref f) = true) (b : Binds G.K fd ps []) : GOk (G.add nm φNo) :=
  g.grow hmg kp b ⟨fun vs H Q E h => by obtain ⟨_, _, _, _, _, _, _, _, _, h, _⟩ := h; exact h.elim, fun A outer s H args us vs Q E _ _ _ _ h => by obtain ⟨_, _, _, _, _, _, _, _, _, h, _⟩ := h; exact h.elim⟩
/-- the promise of a def that calls itself, one level deeper -/
def RecΦ (Γ : Gam) (f : Str) (φ : Nat → Phi) : Nat → Prop
  | 0 => True
  | n + 1 => Γ.Φ f = φ n
/-- what a draw promises: any number in the range -/
def φTake : Phi := fun as P _ => ∃ m : Int, as = [.dr, .fz (.int m)] ∧ 0 < m ∧ m < 2 ^ 30 ∧ ∀ k : Int, 0 ≤ k → k < m → P (.int k)
end DL

set_option Elab.async false
set_option linter.all false
set_option maxRecDepth 100000
set_option maxHeartbeats 4000000
namespace DL
open PySem PySem.Spec PyProof.Rows L2
/-! the given program's rows, by their places -/
abbrev rProg : Program := PySem.Challenge.pw_guessbound_k37_spreads_and_guessing_on
def topS (i : Nat) : Stmt := rProg.main.body.getD i (.Pass ⟨0, 0, 0, 0⟩)
abbrev sTake : Stmt := topS 31
abbrev sDraw : Stmt := topS 30
end DL

set_option Elab.async false
set_option linter.all false
set_option maxRecDepth 100000
set_option maxHeartbeats 4000000
namespace DL
open PySem PySem.Spec PyProof.Rows L2
/-! ### the draw's two defs, by hand -/
theorem scTake : FnScope ["draw", "many", "found"] ["draw", "many"] (defScope sTake) := ⟨rfl, rfl, rfl, by decide +kernel, rfl, by decide +kernel, by decide +kernel⟩
theorem scDraw : FnScope ["script", "seed", "cell"] ["script"] (defScope sDraw) := ⟨rfl, rfl, rfl, by decide +kernel, rfl, by decide +kernel, by decide +kernel⟩
def ifBody : Stmt → List Stmt
  | .If _ b _ _ => b
  | _ => []
section
variable {P : Program} {w : World} {K : PySem.W.Frag} {mg : Str → Option Value} {base : Heap} {CX : CXT}
theorem mk1 {z : Int} (h : 0 < z ∧ z < 2 ^ 30) : dDivOk z := by
  refine ⟨by omega, ?_⟩
  have : z.natAbs < 2 ^ 30 := by omega
  exact Nat.lt_trans ((Nat.log2_lt (k := 30) (by omega)).mpr this) (by decide)
theorem mulOk31 {x : Int} (h0 : 0 ≤ x) (h : x < 2147483647) : x.natAbs.log2 + (48271 : Int).natAbs.log2 < 1000000 := by
  have h1 : (48271 : Int).natAbs.log2 < 16 := by decide
  have h2 : x.natAbs.log2 < 31 ∨ x.natAbs = 0 := by
    by_cases e : x.natAbs = 0
    · exact .inr e
    · exact .inl ((Nat.log2_lt e).mpr (by omega))
  rcases h2 with h2 | h2
  · omega
  · rw [h2]
    have : Nat.log2 0 = 0 := by decide
    omega
theorem sq4 {H : Hp} {a : Addr} {xs : List V} (h : H a = some (.lst xs)) : SqL K H a xs := .inl (.inl h)
theorem ok_take {ec : Str → Value} {f : Addr} {fd : FuncData} {k : Nat} (F : FunS K "_law_take" sTake f fd) (ml : mg "len" = none) (mi : mg "int" = none) : FnOk P w K mg base CX (k + 1) f fd ["draw", "many"] (spF K ec φTake) := by
  refine F.ok scTake (fun vs H Q E h => ?_) (fun cdv A outer s H vs Q E hr h => ?_)
  · obtain ⟨O, dA, dC, as, P, PE, _, _, hp, ⟨m, rfl, _⟩, _⟩ := h
    exact (paired_len hp : vs.length = 2)
  · obtain ⟨O, dA, dC, as, Pd, PE, dm, hd, hp, ⟨m, rfl, m0, m1, hP⟩, hq, he⟩ := h
    cases hp with | cons hp1 hp2 => cases hp2 with | cons hp2 hp3 =>
    cases hp3
    obtain ⟨a, ha, rfl⟩ := hp1
    cases hp2
    have ha : dA = some a := ha
    subst ha
    obtain ⟨ao, cells, i, cur, seed, e1, e2, nO, nca, cp, cl, i0, c0, s0, s1⟩ := hd a rfl
    -- the state of the draw
    let J : Hp → Prop := fun H1 => (∀ b, b ≠ a → H1 b = H b) ∧ ∃ i cur seed : Int, H1 a = some (.lst [.ref dC, .int i, .int cur, .int seed]) ∧ -1 ≤ i ∧ 0 ≤ cur ∧ 0 ≤ seed ∧ seed < 2147483647
    have stJ : ∀ H1, J H1 → Stp K ⟨O, some a, dC, H⟩ O H H1 := fun H1 j => ⟨fun b o n h => by rw [j.1 b (fun e => n (by rw [e]))]; exact h, fun b hb => by
      cases hb
      obtain ⟨i', c', s', g1, g2⟩ := j.2
      exact ⟨cells, i', c', s', g1, by rw [j.1 _ nca]; exact e2, nO, nca, cp, cl, g2⟩⟩
    have putJ : ∀ H1 (o : HO), (∀ b, b ≠ a → H1 b = H b) → ∀ b, b ≠ a → upd H1 a o b = H b := fun H1 o h b n => by rw [upd_ne n]; exact h b n
    have tail : ∃ t, PSs (cxOf CX P w K mg base ["draw", "many", "found"] "_law_take" (defScope sTake) f cdv A outer s H E) ((defBody sTake).drop 1) t ∧
        ∀ H1 x, J H1 → t { nx := fun _ H' => Q .non H', rt := Q } [some (.ref a), some (.int m), x] H1 := by
      refine ⟨_, pss_cons (ps_set (i := 2) scTake.nd rfl (.inl rfl) (pe_op op_mod (pe_callTy call_int1 (by rfl) mi (by decide +kernel) (pa_cons (pe_ix ix_list (pv 0) pe_int (fun _ _ => rfl)) pa_nil)) (pv 1)))
        (pss_cons (ps_asg (pe_op op_fdivA (pe_ix ix_list (pv 0) pe_int (fun _ _ => rfl)) (pv 1)) (pg_sub (pv 0) pe_int set_list))
        (pss_one (ps_ret (pv 2)))), ?_⟩
      intro H1 x j
      obtain ⟨j1, i', c', s', g1, g2, g3, g4, g5⟩ := j
      refine ⟨.ref a, rfl, a, _, 2, .int c', rfl, rfl, sq4 g1, rfl, .inl ⟨c', rfl, _, rfl, c', m, rfl, rfl, m0, ?_⟩⟩
      refine ⟨.ref a, rfl, a, _, 2, .int c', rfl, rfl, sq4 g1, rfl, .int m, rfl, c', m, rfl, rfl, mk1 ⟨m0, m1⟩, ?_⟩
      refine ⟨.ref a, rfl, a, _, 2, 2, rfl, rfl, g1, rfl, .int (c' % m), rfl, ?_⟩
      refine hq _ (hP (c' % m) (Int.emod_nonneg _ (by omega)) (Int.emod_lt_of_pos _ m0)) _ _ (stJ _ ⟨putJ _ _ j1, i', c'.fdiv m, s', upd_same, g2, ?_, g4, g5⟩) (.int _)
      exact Int.fdiv_nonneg g3 (by omega)
    obtain ⟨tl, htl, fin⟩ := tail
    have hu := hu_of hr
    have mid : ∃ t, PSs (cxOf CX P w K mg base ["draw", "many", "found"] "_law_take" (defScope sTake) f cdv A outer s H E) ((ifBody ((defBody sTake).headD (.Pass ⟨0, 0, 0, 0⟩))).drop 2) t ∧
        ∀ H1 x, J H1 → t { nx := tl { nx := fun _ H' => Q .non H', rt := Q }, rt := Q } [some (.ref a), some (.int m), x] H1 := by
      refine ⟨_, pss_one (ps_if (pt_cmpR op_eq (pe_ix ix_list (pv 0) pe_int (fun _ _ => rfl)) pe_int (nomark _))
          (pss_cons (ps_asg (pe_op op_mod (pe_callTy call_int1 (by rfl) mi (by decide +kernel) (pa_cons (pe_op op_add (pe_op op_mulW (pe_ix ix_list (pv 0) pe_int (fun _ _ => rfl)) pe_int) pe_int) pa_nil)) pe_int) (pg_sub (pv 0) pe_int set_list))
          (pss_one (ps_asg (pe_ix ix_list (pv 0) pe_int (fun _ _ => rfl)) (pg_sub (pv 0) pe_int set_list)))) pss_nil), ?_⟩
      intro H1 x j
      have jj := j
      obtain ⟨j1, i', c', s', g1, g2, g3, g4, g5⟩ := j
      refine ⟨.ref a, rfl, a, _, 2, .int c', rfl, rfl, sq4 g1, rfl, rfl, _, rfl, ite2 (fun _ => ?_) (fun _ => fin _ _ jj)⟩
      refine ⟨.ref a, rfl, a, _, 3, .int s', rfl, rfl, sq4 g1, rfl, s', 48271, rfl, rfl, mulOk31 g4 g5, _, 11, rfl, rfl, .inl ⟨_, rfl, _, 2147483647, rfl, rfl, show (0 : Int) < 2147483647 by decide, ?_⟩⟩
      refine ⟨.ref a, rfl, a, _, 3, 3, rfl, rfl, g1, rfl, ?_⟩
      have n0 : 0 ≤ (s' * 48271 + 11) % 2147483647 := Int.emod_nonneg _ (by decide)
      have n1 : (s' * 48271 + 11) % 2147483647 < 2147483647 := Int.emod_lt_of_pos _ (by decide)
      refine ⟨.ref a, rfl, a, _, 3, .int ((s' * 48271 + 11) % 2147483647), rfl, rfl, sq4 upd_same, rfl, .ref a, rfl, a, _, 2, 2, rfl, rfl, upd_same, rfl, ?_⟩
      exact fin _ _ ⟨putJ _ _ (putJ _ _ j1), i', _, _, upd_same, g2, n0, n0, n1⟩
    obtain ⟨tm, htm, fim⟩ := mid
    refine ⟨_, pss_cons (ps_if (pt_cmpR op_eq (pe_ix ix_list (pv 0) pe_int (fun _ _ => rfl)) pe_int (nomark _))
        (pss_cons (ps_asg (pe_op op_add (pe_ix ix_list (pv 0) pe_int (fun _ _ => rfl)) pe_int) (pg_sub (pv 0) pe_int set_list))
        (pss_cons (ps_if (pt_cmpR op_lt (pe_ix ix_list (pv 0) pe_int (fun _ _ => rfl)) (pe_callB call_len_seq (by rfl) ml PySem.boot_len (pa_cons (pe_ix ix_list (pv 0) pe_int (fun _ _ => rfl)) pa_nil)) (nomark _))
            (pss_one (ps_asg (pe_ix ix_list (pe_ix ix_list (pv 0) pe_int (fun _ _ => rfl)) (pe_ix ix_list (pv 0) pe_int (fun _ _ => rfl)) (fun _ _ => rfl)) (pg_sub (pv 0) pe_int set_list))) pss_nil)
        htm))
        pss_nil) htl, ?_⟩
    refine ⟨.ref a, rfl, a, _, 2, .int cur, rfl, rfl, sq4 e1, rfl, rfl, _, rfl, ite2 (fun _ => ?_) (fun _ => fin _ _ ⟨fun _ _ => rfl, i, cur, seed, e1, i0, c0, s0, s1⟩)⟩
    -- draw[1] = draw[1] + 1
    refine ⟨.ref a, rfl, a, _, 1, .int i, rfl, rfl, sq4 e1, rfl, i, 1, rfl, rfl, ?_⟩
    refine ⟨.ref a, rfl, a, _, 1, 1, rfl, rfl, e1, rfl, ?_⟩
    have u1 : (upd H a (.lst [.ref dC, .int (i + 1), .int cur, .int seed])) a = some (.lst [.ref dC, .int (i + 1), .int cur, .int seed]) := upd_same
    have f1 := putJ H (.lst [.ref dC, .int (i + 1), .int cur, .int seed]) fun _ _ => rfl
    have ec1 : (upd H a (.lst [.ref dC, .int (i + 1), .int cur, .int seed])) dC = some (.lst (cells.map V.int)) := by rw [f1 _ nca]; exact e2
    refine ⟨.ref a, rfl, a, _, 1, .int (i + 1), rfl, rfl, sq4 u1, rfl, .ref a, rfl, a, _, 0, .ref dC, rfl, rfl, sq4 u1, rfl, ?_⟩
    refine ⟨dC, _, rfl, .inl (sq4 ec1), _, _, rfl, rfl, _, rfl, ite2 (fun hlt => ?_) (fun _ => fim _ _ ⟨f1, i + 1, cur, seed, u1, by omega, c0, s0, s1⟩)⟩
    have hl : i + 1 < (cells.length : Int) := by
      have := of_decide_eq_true hlt
      rw [List.length_map] at this
      exact this
    obtain ⟨j, hj⟩ : ∃ j : Nat, i + 1 = (j : Int) := ⟨(i + 1).toNat, by omega⟩
    have hjl : j < cells.length := by omega
    have gj : (cells.map V.int)[j]? = some (.int cells[j]) := by rw [List.getElem?_map, List.getElem?_eq_getElem hjl]; rfl
    refine ⟨.ref a, rfl, a, _, 0, .ref dC, rfl, rfl, sq4 u1, rfl, .ref a, rfl, a, _, 1, .int (i + 1), rfl, rfl, sq4 u1, rfl, dC, _, i + 1, .int cells[j], rfl, rfl, sq4 ec1, by rw [hj]; exact atI_nat gj, ?_⟩
    refine ⟨.ref a, rfl, a, _, 2, 2, rfl, rfl, u1, rfl, ?_⟩
    exact fim _ _ ⟨putJ _ _ f1, i + 1, cells[j], seed, upd_same, by omega, cp _ (List.getElem_mem hjl), s0, s1⟩
/-- the numbers, made a draw -/
def spDraw (K : PySem.W.Frag) : Sp := fun vs H Q _ => ∃ (a : Addr) (ns : List Int), vs = [.ref a] ∧ SqL K H a (ns.map V.int) ∧ ns.length ≤ 63 ∧
  ∀ (H' : Hp) (p c : Addr) (cells : List Int) (seed : Int), Same H H' → H p = none → H c = none → c ≠ p → H' p = some (.lst [.ref c, .int (-1), .int 0, .int seed]) → H' c = some (.lst (cells.map V.int)) → (∀ x ∈ cells, 0 ≤ x) → cells.length ≤ 63 → 0 ≤ seed → seed < 2147483647 → Q (.ref p) H'
theorem ok_draw {f : Addr} {fd : FuncData} {k : Nat} (F : FunS K "_law_draw" sDraw f fd) (ma : mg "abs" = none) (mi : mg "int" = none) : FnOk P w K mg base CX (k + 1) f fd ["script"] (spDraw K) := by
  refine F.ok scDraw (fun vs H Q E h => ?_) (fun cdv A outer s H vs Q E hr h => ?_)
  · obtain ⟨a, ns, rfl, _⟩ := h
    rfl
  · obtain ⟨a, ns, rfl, hS, hl, q⟩ := h
    refine ⟨_, pss_cons (ps_set (i := 1) scDraw.nd rfl (.inl rfl) pe_int)
      (pss_cons (ps_for (passes_of (K := fun e s'' => CX outer H s E e s'') rfl) rfl (pi_list (pv 0)) (pg_name (i := 2) scDraw.nd rfl (.inl rfl))
        (pss_one (ps_set (i := 1) scDraw.nd rfl (.inl rfl) (pe_op op_mod (pe_callTy call_int1 (by rfl) mi (by decide +kernel) (pa_cons
          (pe_op op_add (pe_op op_add (pe_op op_mulW (pv 1) pe_int) (pe_op op_mod (pe_callB call_abs (by rfl) ma (by decide +kernel) (pa_cons (pe_callTy call_int1 (by rfl) mi (by decide +kernel) (pa_cons (pv 2) pa_nil)) pa_nil)) pe_int)) pe_int) pa_nil)) pe_int))))
      (pss_one (ps_ret (pe_lst (pa_cons (pe_lc (own := [("cell", 2)]) (g := gName 2) (tt := tYes) rfl scDraw.nd (pi_list (pv 0)) (blkOk_by (N := ["script", "seed", "cell"]) (sc := defScope sDraw) (by decide +kernel)) (fun _ _ _ _ _ => pg_name (i := 2) scDraw.nd rfl (Or.inl rfl)) (fun _ _ _ _ _ => pts_nil)
          (fun _ _ _ _ _ => pe_callB call_abs (by rfl) ma (by decide +kernel) (pa_cons (pe_callTy call_int1 (by rfl) mi (by decide +kernel) (pa_cons (pv 2) pa_nil)) pa_nil)))
        (pa_cons (pe_un un_neg pe_int) (pa_cons pe_int (pa_cons (pv 1) pa_nil)))))))), ?_⟩
    refine ⟨.ref a, rfl, a, rfl, ⟨_, hS⟩, for_list (xs := ns.map V.int) (fun _ σ H1 => H1 = H ∧ ∃ sd y, σ = [some (.ref a), some (.int sd), y] ∧ 0 ≤ sd ∧ sd < 2147483647) ⟨rfl, 7, none, rfl, by decide, by decide⟩ (fun i σ H1 _ h => by rw [h.1]; exact hS) (fun i x σ H1 hx h => ?_) (fun σ H1 h => ?_)⟩
    · obtain ⟨rfl, sd, y, rfl, d0, d1⟩ := h
      obtain ⟨n, rfl⟩ : ∃ n, x = .int n := by
        rw [List.getElem?_map] at hx
        cases e : ns[i]? with
        | none => rw [e] at hx; cases hx
        | some n => rw [e] at hx; cases hx; exact ⟨n, rfl⟩
      refine ⟨.int sd, rfl, sd, 48271, rfl, rfl, mulOk31 d0 d1, .int n, rfl, .inl ⟨n, rfl, n, rfl, _, 65521, rfl, rfl, show (0 : Int) < 65521 by decide, _, _, rfl, rfl, _, 1, rfl, rfl, .inl ⟨_, rfl, _, 2147483647, rfl, rfl, show (0 : Int) < 2147483647 by decide, ?_⟩⟩⟩
      exact ⟨rfl, _, _, rfl, Int.emod_nonneg _ (by decide), Int.emod_lt_of_pos _ (by decide)⟩
    · obtain ⟨rfl, sd, y, rfl, d0, d1⟩ := h
      refine ⟨.ref a, rfl, a, rfl, ⟨_, hS⟩, fun p hp => lc_list (xs := ns.map V.int) (fun i H2 => Same H1 H2 ∧ ∃ cells : List Int, H2 p = some (.lst (cells.map V.int)) ∧ (∀ x ∈ cells, 0 ≤ x) ∧ cells.length ≤ i) ⟨same_upd hp, [], upd_same, nofun, Nat.le_refl _⟩ (fun i H2 _ h => h.1.seq hS) (fun i x H2 hx h => ?_) (fun H2 h => ?_)⟩
      · obtain ⟨n, rfl⟩ : ∃ n, x = .int n := by
          rw [List.getElem?_map] at hx
          cases e : ns[i]? with
          | none => rw [e] at hx; cases hx
          | some n => rw [e] at hx; cases hx; exact ⟨n, rfl⟩
        obtain ⟨sm, cells, g1, g2, g3⟩ := h
        have hi : i < ns.length := by
          rw [List.getElem?_map] at hx
          cases e : ns[i]? with
          | none => rw [e] at hx; cases hx
          | some m => exact (List.getElem?_eq_some_iff.mp e).1
        refine ⟨rfl, ?_⟩
        refine ⟨.int n, rfl, .inl ⟨n, rfl, n, rfl, _, g1, ?_, fun b o e => ?_, cells ++ [if n < 0 then -n else n], ?_, fun x hx => ?_, by rw [List.length_append]; simp; exact g3⟩⟩
        · rw [List.length_map]
          exact small1000 (by omega)
        · rw [upd_ne (fun z => by rw [z, hp] at e; cases e)]
          exact sm b o e
        · rw [upd_same, List.map_append]; rfl
        · rcases List.mem_append.mp hx with h | h
          · exact g2 x h
          · rw [List.mem_singleton] at h
            rw [h]; split <;> omega
      · obtain ⟨sm, cells, g1, g2, g3⟩ := h
        rw [List.length_map] at g3
        refine ⟨1, rfl, .int sd, rfl, show (4 : Nat) ≤ sizeLine by decide, fun r hr2 => ?_⟩
        have nrp : p ≠ r := fun z => by rw [z, hr2] at g1; cases g1
        exact q _ r p cells sd (sm.trans (same_upd hr2)) (Same.free sm hr2) hp nrp upd_same (by rw [upd_ne nrp]; exact g1) g2 (by omega) d0 d1
end
end DL

set_option Elab.async false
set_option linter.all false
set_option maxRecDepth 100000
set_option maxHeartbeats 4000000
namespace DL
open PySem PySem.Spec PyProof.Rows L2
/-! ### the law's own def: its first statement by hand, the rest over data -/
def spLaw (K : PySem.W.Frag) : Sp := fun vs H Q _ => ∃ (a : Addr) (ns : List Int), vs = [.ref a] ∧ SqL K H a (ns.map V.int) ∧ ns.length ≤ 63 ∧ ∀ H', Q (.bl true) H'
def firstOf : List Stmt → Option (Str × Str × Str)
  | .Assign [.Name x _] (.Call (.Name f _) [.Name y _] [] _) _ :: _ => some (x, f, y)
  | _ => none
theorem firstOf_eq {sts : List Stmt} {x f y : Str} (h : firstOf sts = some (x, f, y)) : ∃ p1 p2 p3 p4 p5 rest, sts = .Assign [.Name x p1] (.Call (.Name f p2) [.Name y p3] [] p4) p5 :: rest := by
  unfold firstOf at h
  split at h
  · cases h
    exact ⟨_, _, _, _, _, _, rfl⟩
  · cases h
/-- names of the law: script, draw, .. -/
def chkL (Γ : Gam) (d : DF) (st : Stmt) : Bool := scK d.N ["script"] (defScope st) && mtSs Γ (sxOf d st) d.body (defBody st).tail && decide (firstOf (defBody st) = some (("draw" : Str), ("_law_draw" : Str), ("script" : Str))) && decide (d.N[0]? = some ("script" : Str)) && decide (d.N[1]? = some ("draw" : Str)) && visB (defScope st) "script" && visB (defScope st) "draw" && glB (defScope st) "_law_draw"
def entL (n : Nat) : Rho := none :: some .dr :: List.replicate (n - 2) none
section
variable {G : Glb}
theorem law_ok (g : GOk G) (eo : EOk G) {d : DF} {st : Stmt} {f fD : Addr} {fd fdD : FuncData} (F : FunS G.K "law" st f fd) (FD : FunS G.K "_law_draw" sDraw fD fdD) (hmD : G.mg "_law_draw" = some (.ref fD)) (c : chkL G.Γ d st = true)
    (hbD : Binds G.K fdD ["script"] []) (okD : FnOk G.P G.w G.K G.mg G.base (L2.CX G.P G.w) G.k fD fdD ["script"] (spDraw G.K))
    (pure_ : wpSs G.Γ d.body (entL d.N.length) (kt0 (fun r => r = .bool true) fun _ => False)) :
    FnOk G.P G.w G.K G.mg G.base (L2.CX G.P G.w) (G.k + 1) f fd ["script"] (spLaw G.K) := by
  unfold chkL at c
  simp only [Bool.and_eq_true] at c
  obtain ⟨⟨⟨⟨⟨⟨⟨c1, c2⟩, c3⟩, c4⟩, c5⟩, c6⟩, c7⟩, c8⟩ := c
  have S : FnScope d.N ["script"] (defScope st) := scK_ok c1
  obtain ⟨p1, p2, p3, p4, p5, rest, hst⟩ := firstOf_eq (of_decide_eq_true c3)
  refine F.ok S (fun vs H Q E h => ?_) (fun cdv A outer s H vs Q E hr h => ?_)
  · obtain ⟨a, ns, rfl, _⟩ := h
    rfl
  · obtain ⟨a, ns, rfl, hS, hl, q⟩ := h
    have tk : Takes (cxOf (L2.CX G.P G.w) G.P G.w G.K G.mg G.base d.N "law" (defScope st) f cdv A outer s H E) (fun cls dd _ H' => E cls dd H') := takes_of rfl rfl rfl rfl
    have aS : AtS G (sxOf d st) (cxOf (L2.CX G.P G.w) G.P G.w G.K G.mg G.base d.N "law" (defScope st) f cdv A outer s H E) := ⟨⟨⟨rfl, rfl, rfl, rfl, rfl, rfl, hr, S.nd⟩, rfl, rfl, rfl⟩, rfl, rfl, S.kind, passes_of rfl⟩
    have rst := sndSs g eo d.body (defBody st).tail _ (sxOf d st) _ aS tk c2
    rw [hst] at rst ⊢
    have gl := aS.at_.gl (x := "_law_draw") c8
    have vS := aS.at_.vis (x := "script") c6
    have vD := aS.at_.vis (x := "draw") c7
    have lD : Loc (cxOf (L2.CX G.P G.w) G.P G.w G.K G.mg G.base d.N "law" (defScope st) f cdv A outer s H E).env.scope "draw" := by
      rcases vD with h | h | h
      · exact .inl h
      · exact .inr h
      · exact absurd rfl (S.nofree ("draw", .free) (PySem.mem_of_lookup h))
    refine ⟨_, pss_cons (ps_set (i := 1) S.nd (of_decide_eq_true c5) lD (pe_call okD hr gl.1 hmD FD.kp hbD .nil (passes_call tk (fun _ _ _ _ h => h)) (pa_cons (pe_var (i := 0) (of_decide_eq_true c4) vS (by decide) (by decide)) pa_nil) gl.2) rfl (.inl rfl)) rst, ?_⟩
    have n2 : 1 < d.N.length := (List.getElem?_eq_some_iff.mp (of_decide_eq_true c5)).1
    refine ⟨.ref a, start_get (vs := [.ref a]) rfl, a, ns, rfl, hS, hl, fun H' p c cells seed sm np nc ncp hp hc hx hlen s0 s1 => ?_⟩
    have sget : ((L2.start d.N [.ref a]).set 1 (some (.ref p)))[1]? = some (some (.ref p)) := List.getElem?_set_self (by
      unfold L2.start
      simp
      omega)
    have only : ∀ (i : Nat) (s : Sl), (entL d.N.length)[i]? = some (some s) → i = 1 ∧ s = .dr := fun i s h => by
      unfold entL at h
      rcases i with _ | _ | i
      · simp at h
      · simp at h
        exact ⟨rfl, h.symm⟩
      · simp [List.getElem?_replicate] at h
    refine ⟨⟨fun b => b = p, some p, c, H'⟩, fun b => b = p, entL d.N.length, kt0 (fun r => r = .bool true) fun _ => False, ?_, pure_, ?_⟩
    · exact {
        len := by
          unfold L2.start entL
          simp
          omega
        slot := fun i s h => by
          obtain ⟨rfl, rfl⟩ := only i s h
          exact ⟨_, sget, p, rfl, rfl⟩
        sep := fun i j d' e b o1 o2 q1 q2 q3 q4 => by
          have h1 := (only i _ q1).1
          have h2 := (only j _ q2).1
          rw [h1, h2]
        sub := fun _ h => h
        dom := fun b h => by
          cases h
          exact ⟨_, hp⟩
        unp := fun b h n => absurd h n
        keep := fun _ _ _ h => h
        drw := fun b hb => by
          cases hb
          exact ⟨rfl, cells, -1, 0, seed, hp, hc, ncp, ncp, hx, hlen, by omega, by omega, s0, s1⟩ }
    · exact {
        nx := fun ρ' h O' σ' H2 en => by cases h
        rt := fun x h O' σ' H2 ρ' v en hv => by
          cases h
          cases hv
          exact q _
        bk := fun ρ' h => h.elim
        ct := fun ρ' h => h.elim
        er := fun x ρ' h => h.elim }
end
end DL

set_option Elab.async false
set_option linter.all false
set_option maxRecDepth 100000
set_option maxHeartbeats 4000000
namespace DL
open PySem PySem.Spec PyProof.Rows L2
/-! ### what the top has written, read by one hook -/
mutual
def datB (K : PySem.W.Frag) : D → Value → Bool
  | .none, .none => true
  | .bool b, .bool c => b == c
  | .int i, .int j _ => decide (i = j)
  | .str x, .str y _ => decide (x = y)
  | .tuple ds, .ref a => (match K.lookup a with
    | some ⟨.type c, _, .seq its _, _⟩ => decide (c = "tuple") && (decide (its.size ≤ sizeLine) && datsB K ds its.toList)
    | _ => false)
  | _, _ => false
def datsB (K : PySem.W.Frag) : List D → List Value → Bool
  | [], [] => true
  | d :: ds, u :: us => datB K d u && datsB K ds us
  | _, _ => false
end
mutual
theorem datB_ok {K : PySem.W.Frag} {O : Addr → Prop} {H : Hp} : ∀ (d : D) (u : Value), datB K d u = true → ∃ v, RelV v u ∧ Dr K O H v d
  | .none, u, h => by
    cases u with
    | none => exact ⟨.non, rfl, .non⟩
    | _ => simp [datB] at h
  | .bool b, u, h => by
    cases u with
    | bool c =>
      simp only [datB, beq_iff_eq] at h
      subst h
      exact ⟨.bl b, rfl, .bl b⟩
    | _ => simp [datB] at h
  | .int i, u, h => by
    cases u with
    | int j t =>
      simp only [datB, decide_eq_true_eq] at h
      subst h
      exact ⟨.int i, ⟨t, rfl⟩, .int i⟩
    | _ => simp [datB] at h
  | .str x, u, h => by
    cases u with
    | str y t =>
      simp only [datB, decide_eq_true_eq] at h
      subst h
      exact ⟨.str x, ⟨t, rfl⟩, .str x⟩
    | _ => simp [datB] at h
  | .tuple ds, u, h => by
    cases u with
    | ref a =>
      simp only [datB] at h
      split at h
      · rename_i c od its n sl q
        simp only [Bool.and_eq_true, decide_eq_true_eq] at h
        obtain ⟨rfl, h2, h3⟩ := h
        obtain ⟨vs, r, z⟩ := datsB_ok (O := O) (H := H) ds _ h3
        exact ⟨.ref a, rfl, .tup (.inr (.inr ⟨_, its, n, q, rfl, rfl, h2, r⟩)) z⟩
      · cases h
    | _ => simp [datB] at h
  | .list ds, u, h => by cases u <;> simp [datB] at h
  | .dict ds, u, h => by cases u <;> simp [datB] at h
theorem datsB_ok {K : PySem.W.Frag} {O : Addr → Prop} {H : Hp} : ∀ (ds : List D) (us : List Value), datsB K ds us = true → ∃ vs, Vals vs us ∧ DrA K O H vs ds
  | [], [], _ => ⟨[], .nil, .nil⟩
  | [], _ :: _, h => by simp [datsB] at h
  | _ :: _, [], h => by simp [datsB] at h
  | d :: ds, u :: us, h => by
    simp only [datsB, Bool.and_eq_true] at h
    obtain ⟨v, r, z⟩ := datB_ok (O := O) (H := H) d u h.1
    obtain ⟨vs, r2, z2⟩ := datsB_ok (O := O) (H := H) ds us h.2
    exact ⟨v :: vs, .cons r r2, .cons z z2⟩
end
inductive Xa where
  | dat (x : Str) (d : D)
  | blt (x : Str) (b : String)
def Xa.ok (K : PySem.W.Frag) : Xa → Bool
  | .dat x d => (match PySem.W.nsIn K mainGlobals x with
    | some (some u) => datB K d u
    | _ => false)
  | .blt x b => decide (PySem.W.nsIn K mainGlobals x = some (some (.builtin b)))
section
variable {K : PySem.W.Frag} {h : Heap} {mg : Str → Option Value}
theorem Xa.dat_ok (X : K.In h) (G : h.Ns mainGlobals mg) {x : Str} {d : D} (c : (Xa.dat x d).ok K = true) : ∃ u v, mg x = some u ∧ RelV v u ∧ Dr K (fun _ => False) (fun _ => none) v d := by
  unfold Xa.ok at c
  cases e : PySem.W.nsIn K mainGlobals x with
  | none => simp only [e] at c; cases c
  | some o =>
    cases o with
    | none => simp only [e] at c; cases c
    | some u =>
      simp only [e] at c
      obtain ⟨v, r, z⟩ := datB_ok (O := fun _ => False) (H := fun _ => none) d u c
      exact ⟨u, v, PySem.W.mg_of X G e, r, z⟩
theorem Xa.blt_ok (X : K.In h) (G : h.Ns mainGlobals mg) {x : Str} {b : String} (c : (Xa.blt x b).ok K = true) : mg x = some (.builtin b) := PySem.W.mg_of X G (of_decide_eq_true c)
end
abbrev AlX : Type := He.AlD × Bool
def obsX (fa : List He.Fa) (fn : List He.DefD) (xs : List Xa) (K : PySem.W.Frag) : AlX := (He.obsD fa fn K, xs.all fun x => x.ok K)
def obsXG (n : Nat) (fa : List He.Fa) (fn : List He.DefD) (xs : List Xa) (g : Addr → Option Obj) : AlX := obsX fa fn xs (He.frG g (He.asD g n))
structure SaysX (fa : List He.Fa) (fn : List He.DefD) (xs : List Xa) (K : PySem.W.Frag) : Prop where
  d : He.SaysD fa fn K
  x : (xs.all fun x => x.ok K) = true
def hookX (n : Nat) (fa : List He.Fa) (fn : List He.DefD) (xs : List Xa) : PySem.W.Hook where
  α := AlX
  obs := fun s => obsXG n fa fn xs s.heap.get?
  val := fun _ => (He.valD fn, true)
  says := fun _ h => ∃ K : PySem.W.Frag, K.In h ∧ SaysX fa fn xs K
  of := fun _ _ e => ⟨_, He.frG_in, ⟨congrArg (fun z : AlX => z.1) e, congrArg (fun z : AlX => z.2) e⟩⟩
  keeps := fun _ _ _ ⟨K, hK, c⟩ k => ⟨K, PySem.W.Frag.In.keeps hK k, c⟩
theorem obsXG_eq {n : Nat} {fa : List He.Fa} {fn : List He.DefD} {xs : List Xa} {g : Addr → Option Obj} {s : Shared} (h : ∀ a, g a = s.heap.get? a) : obsXG n fa fn xs g = (hookX n fa fn xs).obs s := by
  have e : g = s.heap.get? := funext h
  rw [e] <;> rfl
theorem SaysX.fact {fa : List He.Fa} {fn : List He.DefD} {xs : List Xa} {K : PySem.W.Frag} (c : SaysX fa fn xs K) {f : He.Fa} (h : f ∈ fa) : f.ok K = true := by
  have c1 := (He.ba (show ((fa.all fun f => f.ok K) && fn.all fun d => d.ok K) = true from congrArg (fun z : He.AlD => z.1) c.d)).1
  exact List.all_eq_true.mp c1 f h
theorem SaysX.xa {fa : List He.Fa} {fn : List He.DefD} {xs : List Xa} {K : PySem.W.Frag} (c : SaysX fa fn xs K) {f : Xa} (h : f ∈ xs) : f.ok K = true := List.all_eq_true.mp c.x f h
end DL

set_option Elab.async false
set_option linter.all false
set_option maxRecDepth 100000
set_option maxHeartbeats 4000000
namespace DL
open PySem PySem.Spec PyProof.Rows L2
/-! ### the table's ground, from what the top has written -/
def freeNames : List Str := ["len", "tuple", "list", "sum", "any", "all", "abs", "min", "max", "int", "str", "sorted", "range", "enumerate", "zip", "isinstance", "bool", "set", "reversed"]
def frees : List He.Fa := freeNames.map .free
def exFa (exs : List Str) : List He.Fa := exs.flatMap fun x => .glo x :: .exc x :: exs.map fun y => .exm x y (decide (x = y))
def datXs (gl : List (Str × D)) : List Xa := .blt "gcd" "math.gcd" :: gl.map fun p => .dat p.1 p.2
def glbk (P : Program) (w : World) (K : PySem.W.Frag) (mg : Str → Option Value) (base : Heap) (k : Nat) (Γ : Gam) : Glb := ⟨P, w, K, mg, base, k, Γ, fun x => .ref (He.ga K x)⟩
abbrev glb0 (P : Program) (w : World) (K : PySem.W.Frag) (mg : Str → Option Value) (base : Heap) (Γ : Gam) : Glb := glbk P w K mg base 0 Γ
section
variable {P : Program} {w : World} {K : PySem.W.Frag} {h : Heap} {mg : Str → Option Value} {base : Heap} {exs : List Str} {gs : List He.Fa} {fn : List He.DefD} {gl : List (Str × D)} {xs : List Xa} {Γ : Gam}
theorem fa_glo (c : SaysX (frees ++ (exFa exs ++ gs)) fn xs K) (i : Nat) {f : He.Fa} (h : gs[i]? = some f) : f.ok K = true :=
  c.fact (List.mem_append_right _ (List.mem_append_right _ (List.mem_of_getElem? h)))
theorem fr_ok (X : K.In h) (G : h.Ns mainGlobals mg) (c : SaysX (frees ++ (exFa exs ++ gs)) fn xs K) (i : Nat) {x : Str} (hx : freeNames[i]? = some x) : mg x = none :=
  He.free_ok X G (c.fact (f := .free x) (List.mem_append_left _ (List.mem_map.mpr ⟨x, List.mem_of_getElem? hx, rfl⟩)))
theorem lookup_in {α : Type} {x : Str} {a : α} : ∀ {l : List (Str × α)}, l.lookup x = some a → (x, a) ∈ l := fun h => PySem.mem_of_lookup h
theorem g0_ok (X : K.In h) (G : h.Ns mainGlobals mg) (c : SaysX (frees ++ (exFa exs ++ gs)) fn (datXs gl ++ xs) K) (hf : Γ.fs = []) (hg : Γ.gl = gl) : GOk (glb0 P w K mg base Γ) where
  fn := fun f hf' => by
    have : f ∈ Γ.fs := hf'
    rw [hf] at this
    cases this
  bi := fun b hb => by
    show mg b.nm = none
    cases b with
    | len => exact fr_ok X G c 0 rfl
    | tuple => exact fr_ok X G c 1 rfl
    | list => exact fr_ok X G c 2 rfl
    | sum => exact fr_ok X G c 3 rfl
    | any => exact fr_ok X G c 4 rfl
    | all => exact fr_ok X G c 5 rfl
    | abs => exact fr_ok X G c 6 rfl
    | min => exact fr_ok X G c 7 rfl
    | max => exact fr_ok X G c 8 rfl
    | int => exact fr_ok X G c 9 rfl
    | str => exact fr_ok X G c 10 rfl
    | gcd => exact absurd rfl hb
    | sorted => exact fr_ok X G c 11 rfl
  gcd := Xa.blt_ok X G (c.xa (List.mem_append_left _ List.mem_cons_self))
  rng := fr_ok X G c 12 rfl
  enm := fr_ok X G c 13 rfl
  zip := fr_ok X G c 14 rfl
  isi := fr_ok X G c 15 rfl
  bool := fr_ok X G c 16 rfl
  set := fr_ok X G c 17 rfl
  rev := fr_ok X G c 18 rfl
  gl := fun x d hx => by
    have hx : Γ.gl.lookup x = some d := hx
    rw [hg] at hx
    exact Xa.dat_ok X G (c.xa (List.mem_append_left _ (List.mem_cons_of_mem _ (List.mem_map.mpr ⟨(x, d), lookup_in hx, rfl⟩))))
theorem e0_ok (X : K.In h) (G : h.Ns mainGlobals mg) (c : SaysX (frees ++ (exFa exs ++ gs)) fn xs K) (he : Γ.exs = exs) : EOk (glb0 P w K mg base Γ) := by
  have mem : ∀ {f : He.Fa}, f ∈ exFa exs → f.ok K = true := fun {f} hf => c.fact (List.mem_append_right _ (List.mem_append_left _ hf))
  refine ⟨fun x hx => ?_, fun x hx y hy => ?_⟩
  · have hx : x ∈ exs := by rw [← he]; exact hx
    have m1 : He.Fa.glo x ∈ exFa exs := List.mem_flatMap.mpr ⟨x, hx, List.mem_cons_self⟩
    have m2 : He.Fa.exc x ∈ exFa exs := List.mem_flatMap.mpr ⟨x, hx, List.mem_cons_of_mem _ List.mem_cons_self⟩
    obtain ⟨q1, q2, q3, q4⟩ := He.exc_ok (mem m2)
    exact ⟨He.ga K x, He.glo_ok X G (mem m1), rfl, q1, q2, q3, q4⟩
  · have hx : x ∈ exs := by rw [← he]; exact hx
    have hy : y ∈ exs := by rw [← he]; exact hy
    exact He.exm_ok (mem (List.mem_flatMap.mpr ⟨x, hx, List.mem_cons_of_mem _ (List.mem_cons_of_mem _ (List.mem_map.mpr ⟨y, hy, rfl⟩))⟩))
end
def dX (x : Str) (i : Nat) : He.DefD := ⟨(x, none), x, x, defArgs (topS i), defBody (topS i), defScope (topS i), [], []⟩
theorem def_at {fa : List He.Fa} {fn : List He.DefD} {xs : List Xa} {K : PySem.W.Frag} (c : SaysX fa fn xs K) (i : Nat) {x : Str} {j : Nat} (h : fn[i]? = some (dX x j)) : ∃ fd, FunS K x (topS j) (He.ga K x) fd := c.d.def_ i h
/-- the end, from the facts of the top -/
theorem walk_end {l : PySem.W.OpenLaw} {n : Nat} {q : Program} {loose : List Str} {XP : (Str → Option Value) → Heap → Prop} {fa : List He.Fa} {fn : List He.DefD} {xs : List Xa} {d : DefRec} (hn : l.most = some 63) (hdf : d.params.defaults = []) (hnm : d.name = ("law" : Str))
    (hr : Room n callerA)
    (F : ∀ (w : World) (K : PySem.W.Frag) (h : Heap) (mg : Str → Option Value) (f : Addr), K.In h → h.Ns mainGlobals mg → mg ("law" : Str) = some (.ref f) → SaysX fa fn xs K →
      ∃ fd : FuncData, (∀ (s : Shared) (v : Value), BindsTo s fd ⟨[v], []⟩ [("script", v)]) ∧ ∀ base : Heap, K.In base → base.Ns mainGlobals mg → FnOk l.prog w K mg base (L2.CX l.prog w) n f fd ["script"] (spLaw K)) :
    PySem.W.WalkO q loose XP (fun _ h => ∃ K : PySem.W.Frag, K.In h ∧ SaysX fa fn xs K) l.row.toRowW d [] (fun f vs => PySem.call f vs) := by
  refine LamX.walk_ofTsE (n := 63) (k := n) (x := "script") (CX := fun w => L2.CX l.prog w) hn (by decide) hdf hr (fun w mg fa h Y G hmg => ?_) (fun w H s e s' z => ?_)
  · obtain ⟨K, KX, c⟩ := Y
    rw [hnm] at hmg
    obtain ⟨fd, hb, hF⟩ := F w K h mg fa KX G hmg c
    exact ⟨K, KX, fd, [], spLaw K, nofun, nofun, nofun, hb, fun H a ns h1 _ _ h4 => ⟨a, ns, rfl, h4, h1, fun _ => rfl⟩, fun base hk hn _ => hF base hk hn⟩
  · obtain ⟨_, _, _, _, _, _, _, _, _, _, _, _, z⟩ := z
    exact z.elim
end DL

set_option Elab.async false
set_option linter.all false
set_option maxRecDepth 100000
set_option maxHeartbeats 4000000
namespace DL
open PySem PySem.Spec PyProof.Rows L2
/-! ### the meaning, computed where the data's kind is known -/
section
variable {α : Type} {Q : D → Prop} {a b : List D} {i j : Int} {p q : Bool} {d : D}
theorem w_some {x : α} {R : α → Prop} : optQ (some x) R = R x := rfl
theorem w_none {R : α → Prop} : optQ none R = False := rfl
theorem w_fz0 : fzs [] = some [] := rfl
theorem w_fz1 {s : D} {r : List Sl} : fzs (.fz s :: r) = (fzs r).map (s :: ·) := rfl
theorem w_t0 : truD .none = some false := rfl
theorem w_t1 : truD (.bool p) = some p := rfl
theorem w_t2 : truD (.int i) = some (i != 0) := rfl
theorem w_t3 : truD (.list a) = some (!a.isEmpty) := rfl
theorem w_t4 : truD (.tuple a) = some (!a.isEmpty) := rfl
theorem w_add : dAdd (.int i) (.int j) Q = Q (.int (i + j)) := rfl
theorem w_addL : dAdd (.list a) (.list b) Q = (a.length + b.length ≤ sizeLine ∧ Q (.list (a ++ b))) := rfl
theorem w_addT : dAdd (.tuple a) (.tuple b) Q = (a.length + b.length ≤ sizeLine ∧ Q (.tuple (a ++ b))) := rfl
theorem w_sub : dSub (.int i) (.int j) Q = Q (.int (i - j)) := rfl
theorem w_subB : dSub (.bool p) (.bool q) Q = Q (.int (PyProof.Rows.b2i p - PyProof.Rows.b2i q)) := rfl
theorem w_mul : dMul (.int i) (.int j) Q = (dMulOk i j ∧ Q (.int (i * j))) := rfl
theorem w_mulL : dMul (.list a) (.int i) Q = (-(2 ^ 63) ≤ i ∧ i < 2 ^ 63 ∧ a.length * i.toNat ≤ sizeLine ∧ Q (.list (repD i a))) := rfl
theorem w_mulT : dMul (.tuple a) (.int i) Q = (a ≠ [] ∧ 2 ≤ i ∧ i ≤ 1000 ∧ a.length ≤ 1000 ∧ Q (.tuple (repD i a))) := rfl
theorem w_mod : dMod (.int i) (.int j) Q = (j ≠ 0 ∧ Q (.int (i.fmod j))) := rfl
theorem w_div : dDiv (.int i) (.int j) Q = (dDivOk j ∧ Q (.int (i.fdiv j))) := rfl
theorem w_lt : dLt (.int i) (.int j) Q = Q (.bool (decide (i < j))) := rfl
theorem w_le : dLe (.int i) (.int j) Q = Q (.bool (decide (i ≤ j))) := rfl
theorem w_gt : dGt (.int i) (.int j) Q = Q (.bool (decide (i > j))) := rfl
theorem w_ge : dGe (.int i) (.int j) Q = Q (.bool (decide (i ≥ j))) := rfl
theorem w_is : dIs d .none Q = Q (.bool (isNone d)) := by cases d <;> rfl
theorem w_isnt : dIsnt d .none Q = Q (.bool (!isNone d)) := by cases d <;> rfl
theorem w_n0 : isNone .none = true := rfl
theorem w_n1 : isNone (.int i) = false := rfl
theorem w_n2 : isNone (.tuple a) = false := rfl
theorem w_n3 : isNone (.list a) = false := rfl
theorem w_n4 : isNone (.bool p) = false := rfl
theorem w_neg : dNeg (.int i) Q = Q (.int (-i)) := rfl
theorem w_atL : dSub1 (.list a) (.int i) Q = optQ (atI a i) Q := rfl
theorem w_atT : dSub1 (.tuple a) (.int i) Q = optQ (atI a i) Q := rfl
theorem w_lenL : dLen [.list a] Q = Q (.int a.length) := rfl
theorem w_lenT : dLen [.tuple a] Q = Q (.int a.length) := rfl
theorem w_tupL : dTuple [.list a] Q = Q (.tuple a) := rfl
theorem w_tupT : dTuple [.tuple a] Q = Q (.tuple a) := rfl
theorem w_lisL : dList [.list a] Q = Q (.list a) := rfl
theorem w_lisT : dList [.tuple a] Q = Q (.list a) := rfl
theorem w_abs : dAbs [.int i] Q = Q (.int i.natAbs) := rfl
theorem w_int : dInt [.int i] Q = Q (.int i) := rfl
theorem w_intB : dInt [.bool p] Q = Q (.int (if p then 1 else 0)) := rfl
theorem w_gcd : dGcd [.int i, .int j] Q = Q (.int (Nat.gcd i.natAbs j.natAbs : Nat)) := rfl
theorem w_min : dMin2 [.int i, .int j] Q = Q (.int (if j < i then j else i)) := rfl
theorem w_max : dMax2 [.int i, .int j] Q = Q (.int (if j > i then j else i)) := rfl
theorem w_seqL {R : List D → Prop} : seqOf (.list a) R = R a := rfl
theorem w_seqT {R : List D → Prop} : seqOf (.tuple a) R = R a := rfl
theorem w_augA : augF .Add (.int i) (.int j) Q = Q (.int (i + j)) := rfl
theorem w_augS : augF .Sub (.int i) (.int j) Q = Q (.int (i - j)) := rfl
theorem w_augM : augF .Mult (.int i) (.int j) Q = (dMulOk i j ∧ Q (.int (i * j))) := rfl
theorem w_intQ {R : Int → Prop} : intQ (.int i) R = R i := rfl
theorem w_lstQ {R : List D → Prop} : lstQ (.list a) R = R a := rfl
theorem w_rng1 {R : List D → Prop} : rngW [.int j] R = (rngOk j ∧ R (rangeD 0 j.toNat)) := rfl
theorem w_rng2 {R : List D → Prop} : rngW [.int i, .int j] R = (rngOk i ∧ rngOk j ∧ R (rangeD i (j - i).toNat)) := rfl
theorem w_zipL {R : List D → Prop} : zipW (.list a) (.list b) R = R (zipD a b) := rfl
theorem w_zipT {R : List D → Prop} : zipW (.tuple a) (.tuple b) R = R (zipD a b) := rfl
theorem w_zipM {R : List D → Prop} : zipW (.list a) (.tuple b) R = R (zipD a b) := rfl
theorem w_zipN {R : List D → Prop} : zipW (.tuple a) (.list b) R = R (zipD a b) := rfl
theorem w_enumT {R : List D → Prop} : enumW (.tuple a) R = R (enumD a) := rfl
theorem w_enum {R : List D → Prop} : enumW (.list a) R = R (enumD a) := rfl
end
end DL

set_option Elab.async false
set_option linter.all false
set_option maxRecDepth 100000
set_option maxHeartbeats 4000000
namespace DL
open PySem PySem.Spec PyProof.Rows L2
/-! ### ratios as data -/
def qD (q : Rat) : D := .tuple [.int q.num, .int q.den]
/-- |i| < 2^n -/
def Bd (n : Nat) (i : Int) : Prop := i.natAbs < 2 ^ n
theorem Bd.mono {m n : Nat} {i : Int} (h : Bd m i) (l : m ≤ n) : Bd n i := Nat.lt_of_lt_of_le h (Nat.pow_le_pow_right (by decide) l)
theorem Bd.mul {m n : Nat} {i j : Int} (h : Bd m i) (k : Bd n j) : Bd (m + n) (i * j) := by
  unfold Bd at *
  rw [Int.natAbs_mul, Nat.pow_add]
  exact Nat.mul_lt_mul'' h k
theorem Bd.add {m n : Nat} {i j : Int} (h : Bd m i) (k : Bd n j) (p : Nat) (hm : m < p) (hn : n < p) : Bd p (i + j) := by
  have h := h.mono (show m ≤ p - 1 by omega)
  have k := k.mono (show n ≤ p - 1 by omega)
  unfold Bd at *
  have e : 2 ^ p = 2 ^ (p - 1) + 2 ^ (p - 1) := by
    rw [show p = (p - 1) + 1 by omega, Nat.pow_succ]
    simp
    omega
  have := Int.natAbs_add_le i j
  omega
theorem Bd.neg {n : Nat} {i : Int} (h : Bd n i) : Bd n (-i) := by
  unfold Bd at *
  rw [Int.natAbs_neg]
  exact h
theorem Bd.sub {m n : Nat} {i j : Int} (h : Bd m i) (k : Bd n j) (p : Nat) (hm : m < p) (hn : n < p) : Bd p (i - j) := by
  rw [Int.sub_eq_add_neg]
  exact h.add k.neg p hm hn
theorem Bd.log {n : Nat} {i : Int} (h : Bd n i) : i.natAbs.log2 ≤ n := by
  by_cases e : i.natAbs = 0
  · rw [e]
    have : Nat.log2 0 = 0 := by decide
    omega
  · exact Nat.le_of_lt ((Nat.log2_lt e).mpr h)
theorem Bd.le {n : Nat} {i j : Int} (h : Bd n i) (l : j.natAbs ≤ i.natAbs) : Bd n j := Nat.lt_of_le_of_lt l h
theorem Bd.of {n : Nat} {i : Int} (h : i.natAbs < 2 ^ n) : Bd n i := h
theorem Bd.mulOk {m n : Nat} {i j : Int} (h : Bd m i) (k : Bd n j) (l : m + n < 1000000) : dMulOk i j := by
  have := h.log
  have := k.log
  unfold dMulOk
  omega
theorem Bd.divOk {n : Nat} {j : Int} (h : Bd n j) (l : n < 9000) (z : j ≠ 0) : dDivOk j := ⟨z, Nat.lt_of_le_of_lt h.log l⟩
structure Sz (n : Nat) (q : Rat) : Prop where
  num : Bd n q.num
  den : Bd n q.den
theorem Sz.mono {m n : Nat} {q : Rat} (h : Sz m q) (l : m ≤ n) : Sz n q := ⟨h.num.mono l, h.den.mono l⟩
theorem den_ne (q : Rat) : (q.den : Int) ≠ 0 := by
  have := q.den_nz
  omega
theorem den_pos (q : Rat) : (0 : Int) < q.den := by
  have := q.den_nz
  omega
/-- the parts of a ratio made of two numbers are no greater -/
theorem divInt_le {a b : Int} (hb : b ≠ 0) : (Rat.divInt a b).num.natAbs ≤ a.natAbs ∧ ((Rat.divInt a b).den : Int).natAbs ≤ b.natAbs := by
  refine ⟨?_, ?_⟩
  · rw [Rat.num_divInt]
    refine Nat.le_trans (Int.natAbs_ediv_le_natAbs _ _) ?_
    rw [Int.natAbs_mul, Int.natAbs_sign_of_ne_zero hb, Nat.one_mul]
    exact Nat.le_refl _
  · rw [Rat.den_divInt, if_neg hb]
    exact Nat.div_le_self _ _
theorem Sz.divInt {m n p : Nat} {a b : Int} (ha : Bd m a) (hb : Bd n b) (z : b ≠ 0) (hm : m ≤ p) (hn : n ≤ p) : Sz p (Rat.divInt a b) := by
  obtain ⟨h1, h2⟩ := divInt_le (a := a) z
  exact ⟨(ha.le h1).mono hm, (hb.le h2).mono hn⟩
theorem add_eq (p q : Rat) : p + q = Rat.divInt (p.num * q.den + q.num * p.den) (p.den * q.den) := by
  rw [Rat.add_def', ← Rat.divInt_ofNat]
  simp
theorem sub_eq (p q : Rat) : p - q = Rat.divInt (p.num * q.den - q.num * p.den) (p.den * q.den) := by
  rw [Rat.sub_def', ← Rat.divInt_ofNat]
  simp
theorem mul_eq (p q : Rat) : p * q = Rat.divInt (p.num * q.num) (p.den * q.den) := by
  rw [Rat.mul_def', ← Rat.divInt_ofNat]
  simp
theorem mul_ne {i j : Int} (h : i ≠ 0) (k : j ≠ 0) : i * j ≠ 0 := Int.mul_ne_zero h k
theorem Sz.add {m n p : Nat} {x y : Rat} (h : Sz m x) (k : Sz n y) (l : m + n < p) : Sz p (x + y) := by
  rw [add_eq]
  exact Sz.divInt ((h.num.mul k.den).add (k.num.mul h.den) p (by omega) (by omega)) (h.den.mul k.den) (mul_ne (den_ne _) (den_ne _)) (Nat.le_refl _) (by omega)
theorem Sz.sub {m n p : Nat} {x y : Rat} (h : Sz m x) (k : Sz n y) (l : m + n < p) : Sz p (x - y) := by
  rw [sub_eq]
  exact Sz.divInt ((h.num.mul k.den).sub (k.num.mul h.den) p (by omega) (by omega)) (h.den.mul k.den) (mul_ne (den_ne _) (den_ne _)) (Nat.le_refl _) (by omega)
theorem Sz.mul {m n p : Nat} {x y : Rat} (h : Sz m x) (k : Sz n y) (l : m + n ≤ p) : Sz p (x * y) := by
  rw [mul_eq]
  exact Sz.divInt (h.num.mul k.num) (h.den.mul k.den) (mul_ne (den_ne _) (den_ne _)) l l
theorem Sz.neg {n : Nat} {x : Rat} (h : Sz n x) : Sz n (-x) := ⟨h.num.neg, h.den⟩
theorem Sz.zero : Sz 1 0 := ⟨show (0 : Int).natAbs < 2 by decide, show (1 : Int).natAbs < 2 by decide⟩
theorem Sz.one : Sz 1 1 := ⟨show (1 : Int).natAbs < 2 by decide, show (1 : Int).natAbs < 2 by decide⟩
/-! ### lowest and the ratios' sums and products -/
def φ_lowest : Phi := fun as P _ => ∃ (a b : Int) (n : Nat), as = [.fz (.int a), .fz (.int b)] ∧ b ≠ 0 ∧ Bd n b ∧ n < 9000 ∧ P (qD (Rat.divInt a b))
theorem fdiv_gcd {a b : Int} {g : Nat} (hg : (g : Int) ∣ a) (h0 : 0 < g) : a.fdiv g = a / g := by
  rw [Int.fdiv_eq_ediv_of_nonneg _ (by omega)]
theorem lowest_eq {a b : Int} (h : b ≠ 0) : (if b < 0 then (PyData.tuple [.int (a.fdiv (-(a.natAbs.gcd b.natAbs : Nat))), .int (b.fdiv (-(a.natAbs.gcd b.natAbs : Nat)))]) else .tuple [.int (a.fdiv (a.natAbs.gcd b.natAbs : Nat)), .int (b.fdiv (a.natAbs.gcd b.natAbs : Nat))]) = qD (Rat.divInt a b) := by
  have g0 : 0 < a.natAbs.gcd b.natAbs := Nat.gcd_pos_of_pos_right _ (by omega)
  have ga : ((a.natAbs.gcd b.natAbs : Nat) : Int) ∣ a := Int.ofNat_dvd_left.mpr (Nat.gcd_dvd_left _ _)
  have gb : ((a.natAbs.gcd b.natAbs : Nat) : Int) ∣ b := Int.ofNat_dvd_left.mpr (Nat.gcd_dvd_right _ _)
  have e : (b.gcd a : Nat) = a.natAbs.gcd b.natAbs := by
    show b.natAbs.gcd a.natAbs = _
    exact Nat.gcd_comm _ _
  have hn : (Rat.divInt a b).num = b.sign * a / (a.natAbs.gcd b.natAbs : Nat) := by rw [Rat.num_divInt, e]
  have hd : (Rat.divInt a b).den = b.natAbs / a.natAbs.gcd b.natAbs := by rw [Rat.den_divInt, if_neg h, e]
  generalize a.natAbs.gcd b.natAbs = g at *
  unfold qD
  obtain ⟨x, hx⟩ := ga
  obtain ⟨y, hy⟩ := gb
  have gp : (0 : Int) < g := by omega
  by_cases hb : b < 0
  · rw [if_pos hb, hn, hd]
    have s : b.sign = -1 := Int.sign_eq_neg_one_of_neg hb
    have e1 : a.fdiv (-(g : Int)) = b.sign * a / g := by
      rw [s, hx, show (g : Int) * x = (-(g : Int)) * (-x) by rw [Int.neg_mul_neg], Int.mul_fdiv_cancel_left _ (by omega)]
      rw [show -1 * (-(g : Int) * -x) = g * -x by rw [Int.neg_mul_neg, Int.mul_neg, Int.neg_mul, Int.one_mul], Int.mul_ediv_cancel_left _ (by omega)]
    have e2 : b.fdiv (-(g : Int)) = ((b.natAbs / g : Nat) : Int) := by
      rw [Int.natCast_ediv, Int.ofNat_natAbs_of_nonpos (by omega), hy, show (g : Int) * y = (-(g : Int)) * (-y) by rw [Int.neg_mul_neg], Int.mul_fdiv_cancel_left _ (by omega)]
      rw [show -(-(g : Int) * -y) = g * -y by rw [Int.neg_mul_neg, Int.mul_neg], Int.mul_ediv_cancel_left _ (by omega)]
    rw [e1, e2]
  · rw [if_neg hb, hn, hd]
    have s : b.sign = 1 := Int.sign_eq_one_of_pos (by omega)
    have e1 : a.fdiv (g : Int) = b.sign * a / g := by rw [s, Int.one_mul, Int.fdiv_eq_ediv_of_nonneg _ (by omega)]
    have e2 : b.fdiv (g : Int) = ((b.natAbs / g : Nat) : Int) := by
      rw [Int.natCast_ediv, Int.natAbs_of_nonneg (by omega), Int.fdiv_eq_ediv_of_nonneg _ (by omega)]
    rw [e1, e2]

theorem atI0 {α : Type} (x : α) (xs : List α) : atI (x :: xs) 0 = some x := by
  rw [show (0 : Int) = ((0 : Nat) : Int) from rfl]
  exact atI_nat rfl
theorem atI1 {α : Type} (x y : α) (xs : List α) : atI (x :: y :: xs) 1 = some y := by
  rw [show (1 : Int) = ((1 : Nat) : Int) from rfl]
  exact atI_nat rfl
theorem atI2 {α : Type} (x y z : α) (xs : List α) : atI (x :: y :: z :: xs) 2 = some z := by
  rw [show (2 : Int) = ((2 : Nat) : Int) from rfl]
  exact atI_nat rfl
/-- two ratios of so many binary digits in all -/
def φ2 (f : Rat → Rat → Rat) : Phi := fun as P _ => ∃ (p q : Rat) (m n : Nat), as = [.fz (qD p), .fz (qD q)] ∧ Sz m p ∧ Sz n q ∧ m + n < 8000 ∧ P (qD (f p q))
abbrev φ_plus : Phi := φ2 (· + ·)
abbrev φ_minus : Phi := φ2 (· - ·)
abbrev φ_times : Phi := φ2 (· * ·)
/-! signs -/
def sgn (i : Int) : Int := if 0 < i then 1 else if i < 0 then -1 else 0
def φ_sign_of : Phi := fun as P _ => ∃ i : Int, as = [.fz (.int i)] ∧ P (.int (sgn i))
def cmpQ (p q : Rat) : Int := if q < p then 1 else if p < q then -1 else 0
theorem sgn_cmp (p q : Rat) : sgn (p.num * q.den - q.num * p.den) = cmpQ p q := by
  unfold sgn cmpQ
  have h1 : (0 < p.num * q.den - q.num * p.den) ↔ q < p := by rw [Rat.lt_iff]; omega
  have h2 : (p.num * q.den - q.num * p.den < 0) ↔ p < q := by rw [Rat.lt_iff]; omega
  simp only [h1, h2]
def φ_compare : Phi := fun as P _ => ∃ (p q : Rat) (m n : Nat), as = [.fz (qD p), .fz (qD q)] ∧ Sz m p ∧ Sz n q ∧ m + n < 8000 ∧ P (.int (cmpQ p q))
def φ_lesser : Phi := fun as P _ => ∃ (p q : Rat) (m n : Nat), as = [.fz (qD p), .fz (qD q)] ∧ Sz m p ∧ Sz n q ∧ m + n < 8000 ∧ P (qD (if p ≤ q then p else q))
theorem cmpQ_le {p q : Rat} : cmpQ p q ≤ 0 ↔ p ≤ q := by
  unfold cmpQ
  by_cases h1 : q < p
  · rw [if_pos h1]
    have : ¬ p ≤ q := by rw [Rat.not_le]; exact h1
    simp [this]
  · rw [if_neg h1]
    have : p ≤ q := Rat.not_lt.mp h1
    simp only [this, iff_true]
    split <;> omega
/-! ### the law's own ratios -/
def φ__law_lowest : Phi := fun as P _ => ∃ (a b : Int) (m n : Nat), as = [.fz (.int a), .fz (.int b)] ∧ 0 < b ∧ Bd m a ∧ Bd n b ∧ n < 9000 ∧ m < 900000 ∧ P (qD (Rat.divInt a b))
abbrev φ__law_plus : Phi := φ2 (· + ·)
abbrev φ__law_times : Phi := φ2 (· * ·)
/-- _law_less: a pair (i, j) with j above nothing need not be in lowest terms -/
def φ__law_less : Phi := fun as P _ => ∃ (a b c d : Int) (m n : Nat), as = [.fz (.tuple [.int a, .int b]), .fz (.tuple [.int c, .int d])] ∧ Bd m a ∧ Bd m b ∧ Bd n c ∧ Bd n d ∧ m + n < 8000 ∧ P (.bool (decide (a * d < c * b)))
/-! ### loops over made lists -/
theorem forW_inv {α : Type} {emb : α → D} {body : D → Rho → (Rho → Prop) → Prop} {Q : Rho → Prop} {l : List α} (I : List α → Rho → Prop) {ρ : Rho} (h0 : I [] ρ)
    (hs : ∀ done x rest ρ kk, l = done ++ x :: rest → I done ρ → (∀ ρ', I (done ++ [x]) ρ' → kk ρ') → body (emb x) ρ kk) (hd : ∀ ρ, I l ρ → Q ρ) : forW body (l.map emb) ρ Q := by
  have key : ∀ (rest done : List α) (ρ : Rho), l = done ++ rest → I done ρ → forW body (rest.map emb) ρ Q := by
    intro rest
    induction rest with
    | nil =>
      intro done ρ e h
      rw [List.append_nil] at e
      subst e
      exact hd ρ h
    | cons x rest ih =>
      intro done ρ e h
      rw [List.map_cons]
      unfold forW
      exact hs done x rest ρ _ e h fun ρ' h' => ih (done ++ [x]) ρ' (by rw [e]; simp) h'
  exact key l [] ρ rfl h0
theorem foldW_inv {α : Type} {emb : α → D} {step : D → List D → (List D → Prop) → Prop} {Q : List D → Prop} {l : List α} (I : List α → List D → Prop) {acc : List D} (h0 : I [] acc)
    (hs : ∀ done x rest acc kk, l = done ++ x :: rest → I done acc → (∀ acc', I (done ++ [x]) acc' → kk acc') → step (emb x) acc kk) (hd : ∀ acc, I l acc → Q acc) : foldW step (l.map emb) acc Q := by
  have key : ∀ (rest done : List α) (acc : List D), l = done ++ rest → I done acc → foldW step (rest.map emb) acc Q := by
    intro rest
    induction rest with
    | nil =>
      intro done acc e h
      rw [List.append_nil] at e
      subst e
      exact hd acc h
    | cons x rest ih =>
      intro done acc e h
      rw [List.map_cons]
      unfold foldW
      exact hs done x rest acc _ e h fun acc' h' => ih (done ++ [x]) acc' (by rw [e]; simp) h'
  exact key l [] acc rfl h0
/-- [g x for x in l if c x] -/
theorem foldW_filter {α : Type} {emb : α → D} {step : D → List D → (List D → Prop) → Prop} {Q : List D → Prop} {l : List α} (c : α → Bool) (g : α → D)
    (hs : ∀ x acc kk, x ∈ l → kk (if c x = true then acc ++ [g x] else acc) → step (emb x) acc kk) (hd : Q ((l.filter c).map g)) : foldW step (l.map emb) [] Q := by
  refine foldW_inv (I := fun done acc => acc = (done.filter c).map g) rfl (fun done x rest acc kk e h hk => ?_) (fun acc h => by rw [h]; exact hd)
  refine hs x acc kk (by rw [e]; simp) (hk _ ?_)
  rw [h, List.filter_append, List.map_append]
  by_cases hc : c x = true
  · rw [if_pos hc]; simp [hc]
  · rw [if_neg hc]; simp [hc]
theorem foldW_map {α : Type} {emb : α → D} {step : D → List D → (List D → Prop) → Prop} {Q : List D → Prop} {l : List α} (g : α → D)
    (hs : ∀ x acc kk, x ∈ l → kk (acc ++ [g x]) → step (emb x) acc kk) (hd : Q (l.map g)) : foldW step (l.map emb) [] Q := by
  refine foldW_filter (fun _ => true) g (fun x acc kk hx h => hs x acc kk hx (by simpa using h)) ?_
  rw [List.filter_eq_self.mpr (fun _ _ => rfl)]
  exact hd
/-- each item is any that R allows -/
theorem paired_snoc {α β : Type} {R : α → β → Prop} {as : List α} {bs : List β} (h : Paired R as bs) {x : α} {y : β} (hx : R x y) : Paired R (as ++ [x]) (bs ++ [y]) := by
  induction h with
  | nil => exact .cons hx .nil
  | cons h1 _ ih => exact .cons h1 ih
theorem foldW_any {α : Type} {emb : α → D} {step : D → List D → (List D → Prop) → Prop} {Q : List D → Prop} {l : List α} (R : α → D → Prop)
    (hs : ∀ x acc kk, x ∈ l → (∀ y, R x y → kk (acc ++ [y])) → step (emb x) acc kk) (hd : ∀ ys, Paired R l ys → Q ys) : foldW step (l.map emb) [] Q := by
  refine foldW_inv (I := fun done acc => Paired R done acc) .nil (fun done x rest acc kk e h hk => ?_) hd
  exact hs x acc kk (by rw [e]; simp) fun y hy => hk _ (paired_snoc h hy)
/-! ### sums -/
def qsum (l : List Rat) : Rat := l.foldr (· + ·) 0
theorem qsum_append (a b : List Rat) : qsum (a ++ b) = qsum a + qsum b := by
  induction a with
  | nil => show qsum b = 0 + qsum b; grind
  | cons x a ih =>
    show x + qsum (a ++ b) = x + qsum a + qsum b
    rw [ih]; grind
theorem qsum_nil : qsum [] = 0 := rfl
theorem qsum_cons (x : Rat) (l : List Rat) : qsum (x :: l) = x + qsum l := rfl
theorem qsum_snoc (a : List Rat) (x : Rat) : qsum (a ++ [x]) = qsum a + x := by
  rw [qsum_append, qsum_cons, qsum_nil]; grind
theorem Sz.qsum {n : Nat} {l : List Rat} (h : ∀ x ∈ l, Sz n x) : Sz (l.length * (n + 1) + 1) (qsum l) := by
  induction l with
  | nil =>
    show Sz ((0 : Nat) * (n + 1) + 1) 0
    exact Sz.zero.mono (by omega)
  | cons x l ih =>
    have h1 := h x List.mem_cons_self
    have h2 := ih fun y hy => h y (List.mem_cons_of_mem _ hy)
    rw [qsum_cons]
    refine h1.add h2 ?_
    rw [List.length_cons, Nat.add_mul]
    omega
def seqD (b : Bool) (ds : List D) : D := if b = true then .list ds else .tuple ds
theorem seqOf_seqD {b : Bool} {ds : List D} {P : List D → Prop} (h : P ds) : seqOf (seqD b ds) P := by
  cases b <;> exact h
/-- the sum of a list or a tuple of ratios: the items and all sums on the way are of so many digits -/
structure Sums (m : Nat) (l : List Rat) : Prop where
  it : ∀ x ∈ l, Sz m x
  su : ∀ d e, l = d ++ e → Sz m (qsum d)
theorem Sums.grow {l : List Rat} {n : Nat} (h : ∀ x ∈ l, Sz n x) : Sums (l.length * (n + 1) + n + 1) l := by
  refine ⟨fun x hx => (h x hx).mono (by omega), fun d e he => ?_⟩
  have hd := Sz.qsum (l := d) (n := n) fun x hx => h x (by rw [he]; simp [hx])
  refine hd.mono ?_
  have : d.length ≤ l.length := by rw [he]; simp
  have := Nat.mul_le_mul_right (n + 1) this
  omega
def φ_total : Phi := fun as P _ => ∃ (b : Bool) (l : List Rat) (m : Nat), as = [.fz (seqD b (l.map qD))] ∧ Sums m l ∧ m < 3990 ∧ P (qD (qsum l))
abbrev φ_total_of : Phi := φ_total
abbrev φ__law_total : Phi := φ_total
theorem qD_zero : qD 0 = .tuple [.int 0, .int 1] := rfl
theorem qD_one : qD 1 = .tuple [.int 1, .int 1] := rfl
/-! ### typed data: == is equality -/
class Td (α : Type) where
  d : α → D
  inj : ∀ x y, PyData.eqv (d x) (d y) = true ↔ x = y
  lay : ∀ x, PyData.canLay0 (d x) = true
  dp : Nat
  le : ∀ x, (d x).depth ≤ dp
/-- a tuple of items of one type -/
structure Tu (α : Type) where
  l : List α
  deriving DecidableEq
instance : Td Int where
  d := .int
  inj x y := by simp [PyData.eqv]
  lay x := rfl
  dp := 0
  le x := by simp [PyData.depth]
instance : Td Bool where
  d := .bool
  inj x y := by simp [PyData.eqv]
  lay x := rfl
  dp := 0
  le x := by simp [PyData.depth]
section
variable {α β : Type} [Td α] [Td β]
theorem td_all (xs ys : List α) : PyData.eqvAll (xs.map Td.d) (ys.map Td.d) = true ↔ xs = ys := by
  induction xs generalizing ys with
  | nil => cases ys <;> simp [PyData.eqvAll]
  | cons x xs ih =>
    cases ys with
    | nil => simp [PyData.eqvAll]
    | cons y ys => simp only [List.map_cons, PyData.eqvAll, Bool.and_eq_true, Td.inj, ih, List.cons.injEq]
theorem td_lay (xs : List α) : PyData.canLayAll0 (xs.map Td.d) = true := by
  induction xs with
  | nil => rfl
  | cons x xs ih => simp only [List.map_cons, PyData.canLayAll0, Td.lay, ih, Bool.and_self]
theorem td_dp (xs : List α) : PyData.depthAll (xs.map Td.d) ≤ Td.dp α := by
  induction xs with
  | nil => exact Nat.zero_le _
  | cons x xs ih =>
    simp only [List.map_cons, PyData.depthAll]
    exact Nat.max_le.mpr ⟨Td.le x, ih⟩
instance : Td (List α) where
  d xs := .list (xs.map Td.d)
  inj xs ys := by simp only [PyData.eqv, td_all]
  lay xs := by simp only [PyData.canLay0, td_lay]
  dp := Td.dp α + 1
  le xs := by
    have := td_dp xs
    simp only [PyData.depth]
    omega
instance : Td (Tu α) where
  d xs := .tuple (xs.l.map Td.d)
  inj xs ys := by
    cases xs; cases ys
    simp only [PyData.eqv, td_all, Tu.mk.injEq]
  lay xs := by simp only [PyData.canLay0, td_lay]
  dp := Td.dp α + 1
  le xs := by
    have := td_dp xs.l
    simp only [PyData.depth]
    omega
instance : Td (α × β) where
  d p := .tuple [Td.d p.1, Td.d p.2]
  inj p q := by
    simp only [PyData.eqv, PyData.eqvAll, Bool.and_eq_true, Td.inj, and_true]
    exact ⟨fun h => Prod.ext h.1 h.2, fun h => by rw [h]; exact ⟨rfl, rfl⟩⟩
  lay p := by simp only [PyData.canLay0, PyData.canLayAll0, Td.lay, Bool.and_self]
  dp := max (Td.dp α) (Td.dp β) + 1
  le p := by
    have h1 := Td.le p.1
    have h2 := Td.le p.2
    simp only [PyData.depth, PyData.depthAll]
    omega
end
instance : Td Rat where
  d := qD
  inj p q := by
    show PyData.eqv (Td.d (p.num, (p.den : Int))) (Td.d (q.num, (q.den : Int))) = true ↔ _
    rw [Td.inj]
    exact ⟨fun e => Rat.ext (congrArg Prod.fst e) (by have h2 : (p.den : Int) = q.den := congrArg Prod.snd e; omega), fun e => by rw [e]⟩
  lay p := rfl
  dp := 1
  le p := Nat.le_refl _
section
variable {α : Type} [Td α]
theorem td_dec [DecidableEq α] (x y : α) : PyData.eqv (Td.d x) (Td.d y) = decide (x = y) := by
  rw [Bool.eq_iff_iff, Td.inj, decide_eq_true_eq]
theorem td_shp (x : α) (h : Td.dp α ≤ 64) : shp (Td.d x) := by
  unfold shp SeqAt.shaped
  rw [Td.lay, decide_eq_true (Nat.le_trans (Td.le x) h)]
  rfl
theorem dEqT [DecidableEq α] {x y : α} {Q : D → Prop} (h : Q (.bool (decide (x = y)))) (hd : Td.dp α ≤ 64 := by decide) : dEq (Td.d x) (Td.d y) Q :=
  ⟨td_shp x hd, td_shp y hd, by rw [td_dec]; exact h⟩
theorem dNeT [DecidableEq α] {x y : α} {Q : D → Prop} (h : Q (.bool (!decide (x = y)))) (hd : Td.dp α ≤ 64 := by decide) : dNe (Td.d x) (Td.d y) Q :=
  ⟨td_shp x hd, td_shp y hd, by rw [td_dec]; exact h⟩
end
theorem dEqI {i j : Int} {Q : D → Prop} (h : Q (.bool (decide (i = j)))) : dEq (.int i) (.int j) Q := dEqT (α := Int) h
theorem dNeI {i j : Int} {Q : D → Prop} (h : Q (.bool (!decide (i = j)))) : dNe (.int i) (.int j) Q := dNeT (α := Int) h
/-! ### whole numbers in a range, rows of them -/
def oD : Option Int → D
  | none => .none
  | some i => .int i
def isInt : D → Option Int → Option Int → Bool
  | .int i, lo, hi => (lo.all fun l => decide (l ≤ i)) && hi.all fun l => decide (i ≤ l)
  | _, _, _ => false
def φ_is_integer : Phi := fun as P _ => ∃ (d : D) (lo hi : Option Int), as = [.fz d, .fz (oD lo), .fz (oD hi)] ∧ P (.bool (isInt d lo hi))
def isRow : D → Option Int → Option Int → Bool
  | .tuple ds, lo, hi => ds.all fun d => isInt d lo hi
  | _, _, _ => false
/-- all([..]), any([..]) of truth values -/
theorem dAll_map {α : Type} {l : List α} {f : α → Bool} {Q : D → Prop} (h : Q (.bool (l.all f))) : dAll [.list (l.map fun x => PyData.bool (f x))] Q := by
  show optQ (boolsOf _) _
  rw [show (l.map fun x => PyData.bool (f x)) = (l.map f).map PyData.bool by rw [List.map_map]; rfl, boolsOf_map]
  show Q (.bool ((l.map f).all id))
  rw [List.all_map]
  exact h
theorem dAny_map {α : Type} {l : List α} {f : α → Bool} {Q : D → Prop} (h : Q (.bool (l.any f))) : dAny [.list (l.map fun x => PyData.bool (f x))] Q := by
  show optQ (boolsOf _) _
  rw [show (l.map fun x => PyData.bool (f x)) = (l.map f).map PyData.bool by rw [List.map_map]; rfl, boolsOf_map]
  show Q (.bool ((l.map f).any id))
  rw [List.any_map]
  exact h
def φ_is_row : Phi := fun as P _ => ∃ (d : D) (lo hi : Option Int), as = [.fz d, .fz (oD lo), .fz (oD hi)] ∧ (∀ ds, d = .tuple ds → ds.length ≤ sizeLine) ∧ P (.bool (isRow d lo hi))
/-! ### more loops -/
theorem forW_allB {α : Type} {emb : α → D} {body : D → Rho → (Rho → Prop) → Prop} {Q : Rho → Prop} {l : List α} {J : Rho → Prop} {R : Prop} {c : α → Bool} {ρ : Rho} (h0 : J ρ)
    (hs : ∀ x ρ kk, x ∈ l → J ρ → (c x = true → ∀ ρ', J ρ' → kk ρ') → (c x = false → R) → body (emb x) ρ kk) (h1 : l.all c = true → ∀ ρ, J ρ → Q ρ) (h2 : l.all c = false → R) : forW body (l.map emb) ρ Q := by
  refine forW_inv (I := fun done ρ => J ρ ∧ done.all c = true) ⟨h0, rfl⟩ (fun done x rest ρ kk e h hk => ?_) (fun ρ h => h1 h.2 ρ h.1)
  refine hs x ρ kk (by rw [e]; simp) h.1 (fun hc ρ' hj => hk ρ' ⟨hj, by rw [List.all_append, h.2]; simp [hc]⟩) (fun hc => h2 ?_)
  rw [e, List.all_append, List.all_cons, hc]
  simp
theorem foldW_mapA {α : Type} {emb : α → D} {step : D → List D → (List D → Prop) → Prop} {Q : List D → Prop} {l : List α} {acc : List D} (g : α → D)
    (hs : ∀ x acc kk, x ∈ l → acc.length < acc.length + 1 → kk (acc ++ [g x]) → step (emb x) acc kk) (hd : Q (acc ++ l.map g)) : foldW step (l.map emb) acc Q := by
  refine foldW_inv (I := fun done a => a = acc ++ done.map g) (by simp) (fun done x rest a kk e h hk => ?_) (fun a h => by rw [h]; exact hd)
  refine hs x a kk (by rw [e]; simp) (by omega) (hk _ ?_)
  rw [h, List.map_append, ← List.append_assoc]
  rfl
/-- a bound holds of what is gathered -/
theorem foldW_mapB {α : Type} {emb : α → D} {step : D → List D → (List D → Prop) → Prop} {Q : List D → Prop} {l : List α} {acc : List D} (g : α → D) (N : Nat) (hN : acc.length + l.length ≤ N)
    (hs : ∀ x acc kk, x ∈ l → acc.length < N → kk (acc ++ [g x]) → step (emb x) acc kk) (hd : Q (acc ++ l.map g)) : foldW step (l.map emb) acc Q := by
  refine foldW_inv (I := fun done a => a = acc ++ done.map g) (by simp) (fun done x rest a kk e h hk => ?_) (fun a h => by rw [h]; exact hd)
  refine hs x a kk (by rw [e]; simp) ?_ (hk _ ?_)
  · rw [h, List.length_append, List.length_map]
    have : l.length = done.length + (rest.length + 1) := by rw [e]; simp
    omega
  · rw [h, List.map_append, ← List.append_assoc]
    rfl
theorem foldW_flat {α : Type} {emb : α → D} {step : D → List D → (List D → Prop) → Prop} {Q : List D → Prop} {l : List α} (g : α → List D) (N : Nat) (hN : ∀ x ∈ l, (g x).length ≤ N)
    (hs : ∀ x acc kk, x ∈ l → acc.length ≤ (l.length - 1) * N → kk (acc ++ g x) → step (emb x) acc kk) (hd : Q (l.flatMap g)) : foldW step (l.map emb) [] Q := by
  refine foldW_inv (I := fun done a => a = done.flatMap g) rfl (fun done x rest a kk e h hk => ?_) (fun a h => by rw [h]; exact hd)
  refine hs x a kk (by rw [e]; simp) ?_ (hk _ ?_)
  · rw [h]
    have h1 : ∀ d : List α, (∀ x ∈ d, (g x).length ≤ N) → (d.flatMap g).length ≤ d.length * N := by
      intro d
      induction d with
      | nil => intro _; simp
      | cons y d ih =>
        intro hy
        have := ih fun z hz => hy z (List.mem_cons_of_mem _ hz)
        have := hy y List.mem_cons_self
        rw [List.flatMap_cons, List.length_append, List.length_cons, Nat.add_mul]
        omega
    have h2 := h1 done fun z hz => hN z (by rw [e]; simp [hz])
    have h3 : done.length ≤ l.length - 1 := by rw [e]; simp
    exact Nat.le_trans h2 (Nat.mul_le_mul_right _ h3)
  · rw [h, List.flatMap_append]
    simp
theorem rangeD_map (lo : Int) (n : Nat) : rangeD lo n = (List.range n).map fun (i : Nat) => PyData.int (lo + i) := rfl
theorem rangeD0 (n : Nat) : rangeD 0 n = (List.range n).map fun (i : Nat) => PyData.int i := by
  unfold rangeD
  congr 1
  funext i
  rw [Int.zero_add]
theorem rngOk_small {i : Int} (h : -1000000 ≤ i) (h2 : i ≤ 1000000) : rngOk i := ⟨by omega, by omega⟩
/-! ### meeting -/
def gx (f : List Int) (a : Nat) : Int := f.getD a 0
theorem atI_row {f : List Int} {a : Nat} (h : a < f.length) : atI (f.map PyData.int) (a : Int) = some (.int (gx f a)) := by
  refine atI_nat ?_
  rw [List.getElem?_map, List.getElem?_eq_getElem h]
  unfold gx
  rw [List.getD_eq_getElem?_getD, List.getElem?_eq_getElem h]
  rfl
theorem small {n : Nat} (h : n ≤ 1000) : n ≤ sizeLine := Nat.le_of_lt (small1000 h)
/-! ### pairs of keys -/
def pairD (p : Nat × Nat) : D := .tuple [.int p.1, .int p.2]
def pairsA (n : Nat) : List (Nat × Nat) := (List.range n).flatMap fun a => (List.range n).map fun b => (a, b)
theorem mem_pairsA {n : Nat} {p : Nat × Nat} : p ∈ pairsA n ↔ p.1 < n ∧ p.2 < n := by
  unfold pairsA
  simp only [List.mem_flatMap, List.mem_range, List.mem_map]
  constructor
  · rintro ⟨a, ha, k, hk, rfl⟩
    exact ⟨ha, hk⟩
  · rintro ⟨h1, h2⟩
    exact ⟨p.1, h1, p.2, h2, rfl⟩
/-! ### families of functions -/
def rowI (f : List Int) : D := .tuple (f.map PyData.int)
def intOf : D → Int
  | .int i => i
  | _ => 0
def tupOf : D → List D
  | .tuple ds => ds
  | _ => []
theorem isRow_tup {d : D} {lo hi : Option Int} (h : isRow d lo hi = true) : d = .tuple (tupOf d) := by
  cases d <;> first | rfl | (simp [isRow] at h)
theorem isInt_int {d : D} {lo hi : Option Int} (h : isInt d lo hi = true) : d = .int (intOf d) := by
  cases d <;> first | rfl | (simp [isInt] at h)
theorem bd5 {i : Int} (h : -32 < i) (h2 : i < 32) : Bd 5 i := by
  show i.natAbs < 2 ^ 5
  omega
theorem pairsA_len {n : Nat} (h : n ≤ 30) : (pairsA n).length ≤ sizeLine := by
  refine small ?_
  have key : ∀ m : Nat, ((List.range m).flatMap fun a => (List.range n).map fun b => (a, b)).length = m * n := by
    intro m
    induction m with
    | zero => simp
    | succ m ih => rw [List.range_succ, List.flatMap_append, List.length_append, ih, Nat.succ_mul]; simp
  unfold pairsA
  rw [key]
  have : n * n ≤ 30 * 30 := Nat.mul_le_mul h h
  omega
/-! ### ratios of two numbers -/
theorem divInt_le_iff {a b c d : Int} (hb : 0 < b) (hd : 0 < d) : Rat.divInt a b ≤ Rat.divInt c d ↔ a * d ≤ c * b := by
  rw [Rat.le_iff_sub_nonneg, Rat.divInt_sub_divInt _ _ (by omega) (by omega), Rat.divInt_nonneg_iff_of_pos_right (Int.mul_pos hd hb)]
  omega
theorem divInt_lt_iff {a b c d : Int} (hb : 0 < b) (hd : 0 < d) : Rat.divInt a b < Rat.divInt c d ↔ a * d < c * b := by
  rw [← Rat.not_le, divInt_le_iff hd hb]
  omega
theorem self_divInt (q : Rat) : Rat.divInt q.num q.den = q := Rat.num_divInt_den q
/-! ### chance rows: weights over their sum -/
structure RowW (m : Nat) (ws : List Int) (S : Int) : Prop where
  len : ws.length = m
  pos : ∀ w ∈ ws, 0 ≤ w
  sum : ws.sum = S
  s1 : 1 ≤ S
  s2 : S ≤ 127
def rowD (ws : List Int) (S : Int) : D := .tuple (ws.map fun w => qD (Rat.divInt w S))
theorem qsum_div (S : Int) (hS : S ≠ 0) : ∀ ws : List Int, qsum (ws.map fun w => Rat.divInt w S) = Rat.divInt ws.sum S
  | [] => by rw [List.map_nil, List.sum_nil, Rat.zero_divInt]; rfl
  | w :: ws => by
    rw [List.map_cons, qsum_cons, qsum_div S hS ws, List.sum_cons, Rat.divInt_add_divInt _ _ hS hS, ← Int.add_mul, Rat.divInt_mul_right hS]
theorem sum_nonneg : ∀ {ws : List Int}, (∀ w ∈ ws, 0 ≤ w) → 0 ≤ ws.sum
  | [], _ => by simp
  | w :: ws, h => by
    have h1 := h w List.mem_cons_self
    have h2 := sum_nonneg (ws := ws) fun x hx => h x (List.mem_cons_of_mem _ hx)
    rw [List.sum_cons]
    omega
theorem le_sum {ws : List Int} (h : ∀ w ∈ ws, 0 ≤ w) {x : Int} (hx : x ∈ ws) : x ≤ ws.sum := by
  induction ws with
  | nil => cases hx
  | cons w ws ih =>
    have h1 := h w List.mem_cons_self
    have h2 := sum_nonneg (ws := ws) fun x hx => h x (List.mem_cons_of_mem _ hx)
    rw [List.sum_cons]
    rcases List.mem_cons.mp hx with rfl | hx
    · omega
    · have := ih (fun y hy => h y (List.mem_cons_of_mem _ hy)) hx
      omega
theorem bdN {n : Nat} {i : Int} (h : i.natAbs < 2 ^ n) : Bd n i := h
theorem bd7 {i : Int} (h : 0 ≤ i) (h2 : i ≤ 127) : Bd 7 i := by
  show i.natAbs < 2 ^ 7
  omega
/-- nonnegative numbers over S whose sum is at most B: all on the way are small -/
theorem sums_div {n : Nat} {ws : List Int} {S : Int} (hS : 0 < S) (hp : ∀ w ∈ ws, 0 ≤ w) (hb : Bd n ws.sum) (hs : Bd n S) : Sums n (ws.map fun w => Rat.divInt w S) := by
  refine ⟨fun x hx => ?_, fun d e he => ?_⟩
  · obtain ⟨w, hw, rfl⟩ := List.mem_map.mp hx
    have h1 := hp w hw
    have h2 := le_sum hp hw
    exact Sz.divInt (hb.le (by omega)) hs (by omega) (Nat.le_refl _) (Nat.le_refl _)
  · obtain ⟨d', e', rfl, rfl, rfl⟩ := List.map_eq_append_iff.mp he
    rw [qsum_div S (by omega)]
    have h1 := sum_nonneg (ws := d') fun w hw => hp w (by simp [hw])
    have h2 := sum_nonneg (ws := e') fun w hw => hp w (by simp [hw])
    rw [List.sum_append] at hb
    exact Sz.divInt (hb.le (by omega)) hs (by omega) (Nat.le_refl _) (Nat.le_refl _)
def φ__law_row : Phi := fun as P _ => ∃ m : Nat, as = [.dr, .fz (.int m)] ∧ 1 ≤ m ∧ m ≤ 30 ∧ ∀ ws S, RowW m ws S → P (rowD ws S)
theorem paired_ints {α : Type} {R : Int → Prop} {l : List α} {ys : List D} (h : Paired (fun _ y => ∃ i, y = PyData.int i ∧ R i) l ys) : ∃ ws : List Int, ys = ws.map PyData.int ∧ ws.length = l.length ∧ ∀ w ∈ ws, R w := by
  induction h with
  | nil => exact ⟨[], rfl, rfl, nofun⟩
  | cons h1 _ ih =>
    obtain ⟨i, rfl, hi⟩ := h1
    obtain ⟨ws, rfl, h2, h3⟩ := ih
    exact ⟨i :: ws, rfl, by simp [h2], fun w hw => by
      rcases List.mem_cons.mp hw with rfl | hw
      · exact hi
      · exact h3 w hw⟩
theorem sum_le_mul : ∀ {ws : List Int} {B : Int}, (∀ w ∈ ws, w ≤ B) → ws.sum ≤ B * ws.length
  | [], B, _ => by simp
  | w :: ws, B, h => by
    have h1 := h w List.mem_cons_self
    have h2 := sum_le_mul (ws := ws) (B := B) fun x hx => h x (List.mem_cons_of_mem _ hx)
    rw [List.sum_cons, List.length_cons]
    have : B * ((ws.length + 1 : Nat) : Int) = B * ws.length + B := by rw [Int.natCast_succ, Int.mul_add, Int.mul_one]
    omega
theorem sum_set : ∀ {ws : List Int} {j : Nat} {x : Int}, (h : j < ws.length) → (ws.set j x).sum = ws.sum - ws[j] + x
  | w :: ws, 0, x, _ => by simp; omega
  | w :: ws, j + 1, x, h => by
    have := sum_set (ws := ws) (j := j) (x := x) (by simpa using h)
    simp only [List.set_cons_succ, List.sum_cons, this, List.getElem_cons_succ]
    omega
def φ__law_pairs_below : Phi := fun as P _ => ∃ n : Nat, as = [.fz (.int n)] ∧ n ≤ 30 ∧ P (.list ((pairsA n).map pairD))
theorem rep_one (x : D) (k : Nat) : repD (k : Int) [x] = List.replicate k x := by
  unfold repD
  rw [Int.toNat_natCast]
  induction k with
  | zero => rfl
  | succ k ih => rw [List.replicate_succ, List.flatten_cons, ih, List.replicate_succ]; rfl
theorem bd20 {i : Int} (h : 0 ≤ i) (h2 : i ≤ 1000000) : Bd 20 i := by
  show i.natAbs < 2 ^ 20
  omega
theorem row_sz {n : Nat} {ws : List Int} {S : Int} (h : RowW n ws S) {w : Int} (hw : w ∈ ws) : Sz 7 (Rat.divInt w S) := by
  have s1 := h.s1
  have s2 := h.s2
  have h1 := h.pos w hw
  have h2 := le_sum h.pos hw
  rw [h.sum] at h2
  exact Sz.divInt (bd7 h1 (by omega)) (bd7 (by omega) s2) (by omega) (Nat.le_refl _) (Nat.le_refl _)
theorem divInt_eq {a b c d : Int} (hb : b ≠ 0) (hd : d ≠ 0) (h : a * d = c * b) : Rat.divInt a b = Rat.divInt c d := (Rat.divInt_eq_divInt_iff hb hd).mpr h
/-- a ratio's own parts, against any that make it -/
theorem parts {c T : Int} (hT : T ≠ 0) : (Rat.divInt c T).num * T = c * (Rat.divInt c T).den := (Rat.divInt_eq_divInt_iff (den_ne _) hT).mp (self_divInt _)
theorem divInt_add {a b T : Int} (hT : T ≠ 0) : Rat.divInt a T + Rat.divInt b T = Rat.divInt (a + b) T := by
  rw [Rat.divInt_add_divInt _ _ hT hT, ← Int.add_mul, Rat.divInt_mul_right hT]
theorem int_qD (i : Int) : qD (i : Rat) = .tuple [.int i, .int 1] := rfl
theorem int_divInt (i : Int) : (i : Rat) = Rat.divInt i 1 := (Rat.num_divInt_den (i : Rat)).symm
theorem qD0 (q : Rat) (Q : D → Prop) : dSub1 (qD q) (.int 0) Q = Q (.int q.num) := by simp only [qD, true_and, wpSs, wpS, wpE, wpX, wpO, wpC, wpI, ent, kt0, bindT, bindTs, tgsLen, wipeR, constD, owL, List.map_cons, List.map_nil, List.length_cons, List.length_nil, List.replicate, List.cons_append, List.nil_append, Nat.reduceSub, Nat.reduceAdd, List.getElem?_cons_zero, List.getElem?_cons_succ, List.getElem?_nil, List.set_cons_zero, List.set_cons_succ, opF, cmpF, Bi.fd, Option.map_some, if_true, if_false, Bool.true_eq_false, Bool.false_eq_true, reduceIte, Bool.not_true, Bool.not_false, w_some, w_none, w_fz0, w_fz1, w_t0, w_t1, w_t2, w_t3, w_t4, w_add, w_addL, w_addT, w_sub, w_subB, w_mul, w_mulL, w_mulT, w_mod, w_div, w_lt, w_le, w_gt, w_ge, w_is, w_isnt, w_n0, w_n1, w_n2, w_n3, w_n4, w_neg, w_atL, w_atT, w_lenL, w_lenT, w_tupL, w_tupT, w_lisL, w_lisT, w_abs, w_int, w_intB, w_gcd, w_min, w_max, w_seqL, w_seqT, w_augA, w_augS, w_augM, w_intQ, w_lstQ, w_rng1, w_rng2, w_zipL, w_zipT, w_zipM, w_zipN, w_enum, w_enumT, atI0]
theorem qD1 (q : Rat) (Q : D → Prop) : dSub1 (qD q) (.int 1) Q = Q (.int q.den) := by simp only [qD, true_and, wpSs, wpS, wpE, wpX, wpO, wpC, wpI, ent, kt0, bindT, bindTs, tgsLen, wipeR, constD, owL, List.map_cons, List.map_nil, List.length_cons, List.length_nil, List.replicate, List.cons_append, List.nil_append, Nat.reduceSub, Nat.reduceAdd, List.getElem?_cons_zero, List.getElem?_cons_succ, List.getElem?_nil, List.set_cons_zero, List.set_cons_succ, opF, cmpF, Bi.fd, Option.map_some, if_true, if_false, Bool.true_eq_false, Bool.false_eq_true, reduceIte, Bool.not_true, Bool.not_false, w_some, w_none, w_fz0, w_fz1, w_t0, w_t1, w_t2, w_t3, w_t4, w_add, w_addL, w_addT, w_sub, w_subB, w_mul, w_mulL, w_mulT, w_mod, w_div, w_lt, w_le, w_gt, w_ge, w_is, w_isnt, w_n0, w_n1, w_n2, w_n3, w_n4, w_neg, w_atL, w_atT, w_lenL, w_lenT, w_tupL, w_tupT, w_lisL, w_lisT, w_abs, w_int, w_intB, w_gcd, w_min, w_max, w_seqL, w_seqT, w_augA, w_augS, w_augM, w_intQ, w_lstQ, w_rng1, w_rng2, w_zipL, w_zipT, w_zipM, w_zipN, w_enum, w_enumT, atI1]
theorem dNeB {a b : Bool} {Q : D → Prop} (h : Q (.bool (!decide (a = b)))) : dNe (.bool a) (.bool b) Q := dNeT (α := Bool) h
theorem dNeQ {a b : Rat} {Q : D → Prop} (h : Q (.bool (!decide (a = b)))) : dNe (qD a) (qD b) Q := dNeT (α := Rat) h
theorem dNeTu {a b : List Rat} {Q : D → Prop} (h : Q (.bool (!decide (a = b)))) : dNe (.tuple (a.map qD)) (.tuple (b.map qD)) Q := by
  have := dNeT (α := Tu Rat) (x := ⟨a⟩) (y := ⟨b⟩) (Q := Q) (by
    rw [show decide ((⟨a⟩ : Tu Rat) = ⟨b⟩) = decide (a = b) from decide_eq_decide.mpr ⟨fun e => congrArg Tu.l e, fun e => by rw [e]⟩]
    exact h)
  exact this
theorem dNe_nil {Q : D → Prop} (h : Q (.bool false)) : dNe (.list []) (.list []) Q := ⟨rfl, rfl, h⟩
theorem dEq_nil {Q : D → Prop} (h : Q (.bool true)) : dEq (.list []) (.list []) Q := ⟨rfl, rfl, h⟩

theorem atI_last1 {α : Type} (l : List α) (x : α) : atI (l ++ [x]) (-1) = some x := atI_last l x
def stsGet : Nat → Sts → DL.St
  | 0, .cons s _ => s
  | k + 1, .cons _ ss => stsGet k ss
  | _, .nil => .pss
def stsDrop : Nat → Sts → Sts
  | 0, ss => ss
  | k + 1, .cons _ ss => stsDrop k ss
  | _ + 1, .nil => .nil
theorem paired_rows {α : Type} {R : List Int → Prop} {l : List α} {ys : List D} (h : Paired (fun _ y => ∃ f, y = rowI f ∧ R f) l ys) : ∃ fs : List (List Int), ys = fs.map rowI ∧ fs.length = l.length ∧ ∀ f ∈ fs, R f := by
  induction h with
  | nil => exact ⟨[], rfl, rfl, nofun⟩
  | cons h1 _ ih =>
    obtain ⟨i, rfl, hi⟩ := h1
    obtain ⟨ws, rfl, h2, h3⟩ := ih
    exact ⟨i :: ws, rfl, by simp [h2], fun w hw => by
      rcases List.mem_cons.mp hw with rfl | hw
      · exact hi
      · exact h3 w hw⟩
theorem if_no {A B : Prop} (h : B) : (optQ (truD (.bool false)) fun c => if c = true then A else B) := h
theorem if_yes {A B : Prop} (h : A) : (optQ (truD (.bool true)) fun c => if c = true then A else B) := h
theorem dNeB_same {a : Bool} {Q : D → Prop} (h : Q (.bool false)) : dNe (.bool a) (.bool a) Q := dNeB (by rw [decide_eq_true (rfl : a = a)]; exact h)
theorem dNeI_same {i : Int} {Q : D → Prop} (h : Q (.bool false)) : dNe (.int i) (.int i) Q := dNeI (by rw [decide_eq_true (rfl : i = i)]; exact h)
end DL

set_option Elab.async false
set_option linter.all false
set_option maxRecDepth 100000
set_option maxHeartbeats 4000000
namespace DL
open PySem PySem.Spec PyProof.Rows L2
/-! ### rows of ratios, channels, gains -/
def rowQ (l : List Rat) : D := .tuple (l.map qD)
def chQ (c : List (List Rat)) : D := .tuple (c.map rowQ)
def gnD (g : List (List Int)) : D := .tuple (g.map rowI)
/-- a chance row -/
structure ChR (n : Nat) (l : List Rat) : Prop where
  len : l.length = n
  pos : ∀ x ∈ l, 0 ≤ x
  sum : qsum l = 1
  sz : ∀ x ∈ l, Sz 7 x
structure ChC (m n : Nat) (c : List (List Rat)) : Prop where
  len : c.length = m
  row : ∀ r ∈ c, ChR n r
structure GnR (m most : Nat) (g : List (List Int)) : Prop where
  l1 : 1 ≤ g.length
  l2 : g.length ≤ most
  row : ∀ r ∈ g, r.length = m ∧ ∀ x ∈ r, -3 ≤ x ∧ x ≤ 5
theorem divInt_nonneg {a b : Int} (ha : 0 ≤ a) (hb : 0 < b) : 0 ≤ Rat.divInt a b := by
  have := (divInt_le_iff (a := 0) (b := 1) (c := a) (d := b) (by decide) hb).mpr (by omega)
  have e : Rat.divInt 0 1 = 0 := Rat.zero_divInt _
  rwa [e] at this
theorem RowW.chr {m : Nat} {ws : List Int} {S : Int} (h : RowW m ws S) : ChR m (ws.map fun w => Rat.divInt w S) where
  len := by rw [List.length_map]; exact h.len
  pos x hx := by
    obtain ⟨w, hw, rfl⟩ := List.mem_map.mp hx
    have := h.s1
    exact divInt_nonneg (h.pos w hw) (by omega)
  sum := by
    have := h.s1
    rw [qsum_div S (by omega), h.sum]
    exact divInt_eq (c := 1) (d := 1) (by omega) (by decide) (by omega)
  sz x hx := by
    obtain ⟨w, hw, rfl⟩ := List.mem_map.mp hx
    exact row_sz h hw
theorem rowD_rowQ (ws : List Int) (S : Int) : rowD ws S = rowQ (ws.map fun w => Rat.divInt w S) := by
  unfold rowD rowQ
  rw [List.map_map]
  rfl
theorem paired_map {α β : Type} {emb : β → D} {R : β → Prop} {l : List α} {ys : List D} (h : Paired (fun _ y => ∃ f, y = emb f ∧ R f) l ys) : ∃ fs : List β, ys = fs.map emb ∧ fs.length = l.length ∧ ∀ f ∈ fs, R f := by
  induction h with
  | nil => exact ⟨[], rfl, rfl, nofun⟩
  | cons h1 _ ih =>
    obtain ⟨i, rfl, hi⟩ := h1
    obtain ⟨ws, rfl, h2, h3⟩ := ih
    exact ⟨i :: ws, rfl, by simp [h2], fun w hw => by
      rcases List.mem_cons.mp hw with rfl | hw
      · exact hi
      · exact h3 w hw⟩
theorem at_map {α : Type} {emb : α → D} {l : List α} {k : Nat} {x : α} (h : l[k]? = some x) : atI (l.map emb) (k : Int) = some (emb x) := atI_nat (by rw [List.getElem?_map, h]; rfl)
theorem at_map0 {α : Type} {emb : α → D} {x : α} {l : List α} : atI ((x :: l).map emb) 0 = some (emb x) := at_map (k := 0) rfl
theorem ixN_nat {n j : Nat} (h : j < n) : ixN n (j : Int) = some j := by
  unfold ixN
  rw [if_pos (by omega), if_pos (by omega), Int.toNat_natCast]
def φ__law_channel : Phi := fun as P _ => ∃ m n : Nat, as = [.dr, .fz (.int m), .fz (.int n)] ∧ 1 ≤ m ∧ m ≤ 30 ∧ 1 ≤ n ∧ n ≤ 30 ∧ ∀ c, ChC m n c → P (chQ c)
def φ__law_gains : Phi := fun as P _ => ∃ m most : Nat, as = [.dr, .fz (.int m), .fz (.int most)] ∧ m ≤ 30 ∧ 1 ≤ most ∧ most ≤ 30 ∧ ∀ g, GnR m most g → P (gnD g)
/-! ### sums of products -/
def dot (w : List Rat) (g : List Int) : Rat := qsum (w.zipWith (fun p (n : Int) => p * n) g)
theorem zipD_map2 {α β : Type} (f : α → D) (g : β → D) (l : List α) (l2 : List β) : zipD (l.map f) (l2.map g) = (l.zip l2).map fun p => PyData.tuple [f p.1, g p.2] := by
  unfold zipD
  rw [List.zipWith_map, List.zip, List.map_zipWith]
theorem zipWith_zip {α β γ : Type} (f : α → β → γ) (l : List α) (l2 : List β) : l.zipWith f l2 = (l.zip l2).map fun p => f p.1 p.2 := by
  rw [List.zip, List.map_zipWith]
theorem Sz.ofInt {n : Nat} {i : Int} (h : Bd n i) (h1 : 1 ≤ n) : Sz n (i : Rat) := by
  refine ⟨h, ?_⟩
  show (1 : Int).natAbs < 2 ^ n
  exact Nat.lt_of_lt_of_le (show 1 < 2 ^ 1 by decide) (Nat.pow_le_pow_right (by decide) h1)
theorem mem_zip {α β : Type} {l : List α} {l2 : List β} {p : α × β} (h : p ∈ l.zip l2) : p.1 ∈ l ∧ p.2 ∈ l2 := ⟨(List.of_mem_zip h).1, (List.of_mem_zip h).2⟩
/-- the digits of a sum of so many items -/
def sumSz (L n : Nat) : Nat := L * (n + 1) + n + 1
theorem le_sumSz (L n : Nat) : n ≤ sumSz L n := by unfold sumSz; omega
theorem Sums.mono {m n : Nat} {l : List Rat} (h : Sums m l) (q : m ≤ n) : Sums n l := ⟨fun x hx => (h.it x hx).mono q, fun d e he => (h.su d e he).mono q⟩
theorem Sums.all {m : Nat} {l : List Rat} (h : Sums m l) : Sz m (qsum l) := h.su l [] (by simp)
theorem sums_le {L n : Nat} {l : List Rat} (hl : l.length ≤ L) (h : ∀ x ∈ l, Sz n x) : Sums (sumSz L n) l := by
  refine (Sums.grow h).mono ?_
  unfold sumSz
  have := Nat.mul_le_mul_right (n + 1) hl
  omega
theorem dot_sums {L s t : Nat} {w : List Rat} {g : List Int} (hl : w.length ≤ L) (hw : ∀ x ∈ w, Sz s x) (hg : ∀ x ∈ g, Bd t x) (ht : 1 ≤ t) : Sums (sumSz L (s + t)) (w.zipWith (fun p (n : Int) => p * n) g) := by
  refine sums_le (by rw [List.length_zipWith]; omega) fun x hx => ?_
  rw [zipWith_zip] at hx
  obtain ⟨p, hp, rfl⟩ := List.mem_map.mp hx
  exact (hw _ (mem_zip hp).1).mul (Sz.ofInt (hg _ (mem_zip hp).2) ht) (Nat.le_refl _)
structure DotOk (L s t : Nat) (w : List Rat) (g : List Int) : Prop where
  l : w.length ≤ L
  w : ∀ x ∈ w, Sz s x
  g : ∀ x ∈ g, Bd t x
  t1 : 1 ≤ t
  sm : sumSz L (s + t) < 3990
def φ_expected : Phi := fun as P _ => ∃ (b : Bool) (w : List Rat) (g : List Int) (L s t : Nat), as = [.fz (seqD b (w.map qD)), .fz (rowI g)] ∧ DotOk L s t w g ∧ P (qD (dot w g))
theorem zipW_seq {b : Bool} {x y : List D} {P : List D → Prop} (h : P (zipD x y)) : zipW (seqD b x) (.tuple y) P := by
  cases b <;> exact h
/-! ### the first greatest -/
def bestUp (o : Option (Rat × Nat)) (v : Rat) (k : Nat) : Option (Rat × Nat) := match o with
  | none => some (v, k)
  | some p => if p.1 < v then some (v, k) else some p
/-- the greatest so far and its place, over the values so far -/
def bestI (f : Nat → Rat) : Nat → Option (Rat × Nat)
  | 0 => none
  | n + 1 => bestUp (bestI f n) (f n) n
def mx (b : Rat) (vs : List Rat) : Rat := vs.foldl (fun b v => if b < v then v else b) b
def mxL : List Rat → Rat
  | [] => 0
  | v :: vs => mx v vs
theorem mx_ge (b : Rat) (vs : List Rat) : b ≤ mx b vs := by
  induction vs generalizing b with
  | nil => exact Rat.le_refl
  | cons v vs ih =>
    show b ≤ mx (if b < v then v else b) vs
    refine Rat.le_trans ?_ (ih _)
    split
    · exact Rat.le_of_lt ‹_›
    · exact Rat.le_refl
theorem mx_mem (b : Rat) (vs : List Rat) : ∀ v ∈ vs, v ≤ mx b vs := by
  induction vs generalizing b with
  | nil => nofun
  | cons v vs ih =>
    intro x hx
    show x ≤ mx (if b < v then v else b) vs
    rcases List.mem_cons.mp hx with rfl | hx
    · refine Rat.le_trans ?_ (mx_ge _ _)
      split
      · exact Rat.le_refl
      · exact Rat.not_lt.mp ‹_›
    · exact ih _ x hx
theorem mx_is (b : Rat) (vs : List Rat) : mx b vs = b ∨ mx b vs ∈ vs := by
  induction vs generalizing b with
  | nil => exact .inl rfl
  | cons v vs ih =>
    show mx (if b < v then v else b) vs = b ∨ mx (if b < v then v else b) vs ∈ v :: vs
    rcases ih (if b < v then v else b) with h | h
    · rw [h]
      split
      · exact .inr List.mem_cons_self
      · exact .inl rfl
    · exact .inr (List.mem_cons_of_mem _ h)
theorem mx_snoc (b : Rat) (vs : List Rat) (v : Rat) : mx b (vs ++ [v]) = if mx b vs < v then v else mx b vs := by
  unfold mx
  rw [List.foldl_append]
  rfl
theorem mx_le {b B : Rat} {vs : List Rat} (hb : b ≤ B) (h : ∀ v ∈ vs, v ≤ B) : mx b vs ≤ B := by
  rcases mx_is b vs with e | e
  · rw [e]; exact hb
  · exact h _ e
theorem mx_self (v : Rat) (vs : List Rat) : mx v (v :: vs) = mx v vs := by
  show mx (if v < v then v else v) vs = _
  rw [ite_self]
theorem mxL_mem {vs : List Rat} : ∀ v ∈ vs, v ≤ mxL vs := by
  cases vs with
  | nil => nofun
  | cons x vs =>
    intro v hv
    rcases List.mem_cons.mp hv with rfl | hv
    · exact mx_ge _ _
    · exact mx_mem _ _ _ hv
theorem mxL_is {vs : List Rat} (h : vs ≠ []) : mxL vs ∈ vs := by
  cases vs with
  | nil => exact absurd rfl h
  | cons x vs =>
    rcases mx_is x vs with e | e
    · show mx x vs ∈ _
      rw [e]; exact List.mem_cons_self
    · exact List.mem_cons_of_mem _ e
theorem mxL_snoc {vs : List Rat} (h : vs ≠ []) (v : Rat) : mxL (vs ++ [v]) = if mxL vs < v then v else mxL vs := by
  cases vs with
  | nil => exact absurd rfl h
  | cons x vs => exact mx_snoc x vs v
theorem bestI_val {f : Nat → Rat} : ∀ n, 0 < n → ∃ k, k < n ∧ bestI f n = some (mxL ((List.range n).map f), k) ∧ f k = mxL ((List.range n).map f)
  | 1, _ => ⟨0, by decide, rfl, rfl⟩
  | n + 2, _ => by
    obtain ⟨k, hk, e, ek⟩ := bestI_val (f := f) (n + 1) (by omega)
    have hne : (List.range (n + 1)).map f ≠ [] := by
      intro z
      have := congrArg List.length z
      simp at this
    rw [List.range_succ (n := n + 1), List.map_append, List.map_cons, List.map_nil, mxL_snoc hne]
    show ∃ k, k < n + 2 ∧ bestUp (bestI f (n + 1)) (f (n + 1)) (n + 1) = _ ∧ _
    rw [e]
    unfold bestUp
    by_cases c : mxL ((List.range (n + 1)).map f) < f (n + 1)
    · simp only [if_pos c]
      exact ⟨n + 1, by omega, rfl, rfl⟩
    · simp only [if_neg c]
      exact ⟨k, by omega, rfl, ek⟩
def bestD : Option (Rat × Nat) → D
  | none => .none
  | some p => .tuple [qD p.1, .int p.2]
/-- the greatest worth of a guess -/
def gv (gs : List (List Int)) (w : List Rat) : Rat := mxL (gs.map (dot w))
theorem gv_range (gs : List (List Int)) (w : List Rat) : (List.range gs.length).map (fun k => dot w (gs.getD k [])) = gs.map (dot w) := by
  refine List.ext_getElem (by simp) fun i h1 h2 => ?_
  simp only [List.length_map] at h2
  simp [h2]
structure BestOk (L s t : Nat) (w : List Rat) (gs : List (List Int)) : Prop where
  ne : gs ≠ []
  ok : ∀ g ∈ gs, DotOk L s t w g
def φ_best_of : Phi := fun as P _ => ∃ (b : Bool) (w : List Rat) (gs : List (List Int)) (L s t : Nat), as = [.fz (seqD b (w.map qD)), .fz (gnD gs)] ∧ BestOk L s t w gs ∧
  ∀ k : Nat, k < gs.length → dot w (gs.getD k []) = gv gs w → P (.tuple [qD (gv gs w), .int k])
def φ__law_best_guess : Phi := fun as P _ => ∃ (b : Bool) (w : List Rat) (gs : List (List Int)) (L s t : Nat), as = [.fz (seqD b (w.map qD)), .fz (gnD gs)] ∧ BestOk L s t w gs ∧ gs.length ≤ 1000 ∧ P (qD (gv gs w))
theorem gv_sz {L s t : Nat} {w : List Rat} {gs : List (List Int)} (h : BestOk L s t w gs) : Sz (sumSz L (s + t)) (gv gs w) := by
  obtain ⟨g, hg, e⟩ := List.mem_map.mp (mxL_is (vs := gs.map (dot w)) (by simpa using h.ne))
  show Sz _ (mxL _)
  rw [← e]
  have := h.ok g hg
  exact (dot_sums this.l this.w this.g this.t1).all
/-! ### a column, weighted -/
def colQ (w : List Rat) (c : List (List Rat)) (y : Nat) : List Rat := w.zipWith (fun p r => p * r.getD y 0) c
def sg (c : List (List Rat)) : Nat := (c.headD []).length
def φ_signs_of : Phi := fun as P _ => ∃ (r : List Rat) (c : List (List Rat)), as = [.fz (chQ (r :: c))] ∧ P (.int r.length)
structure ColOk (s t : Nat) (w : List Rat) (c : List (List Rat)) (y : Nat) : Prop where
  hw : ∀ x ∈ w, Sz s x
  hc : ∀ r ∈ c, ∀ x ∈ r, Sz t x
  hy : ∀ r ∈ c, y < r.length
  l : w.length ≤ 1000
  sm : s + t < 4000
def φ_column_of : Phi := fun as P _ => ∃ (b : Bool) (w : List Rat) (c : List (List Rat)) (y s t : Nat), as = [.fz (seqD b (w.map qD)), .fz (chQ c), .fz (.int y)] ∧ ColOk s t w c y ∧ P (.tuple ((colQ w c y).map qD))
def φ__law_behind : Phi := fun as P _ => ∃ (b : Bool) (w : List Rat) (c : List (List Rat)) (y s t : Nat), as = [.fz (seqD b (w.map qD)), .fz (chQ c), .fz (.int y)] ∧ ColOk s t w c y ∧ P (.list ((colQ w c y).map qD))
theorem col_sz {s t : Nat} {w : List Rat} {c : List (List Rat)} {y : Nat} (h : ColOk s t w c y) : ∀ x ∈ colQ w c y, Sz (s + t) x := fun x hx => by
  unfold colQ at hx
  rw [zipWith_zip] at hx
  obtain ⟨p, hp, rfl⟩ := List.mem_map.mp hx
  have hy := h.hy _ (mem_zip hp).2
  refine (h.hw _ (mem_zip hp).1).mul (h.hc _ (mem_zip hp).2 _ ?_) (Nat.le_refl _)
  rw [List.getD_eq_getElem?_getD, List.getElem?_eq_getElem hy]
  exact List.getElem_mem hy
theorem col_len {w : List Rat} {c : List (List Rat)} {y : Nat} (h : w.length = c.length) : (colQ w c y).length = w.length := by
  unfold colQ
  rw [List.length_zipWith]
  omega
theorem getD_mem {α : Type} {l : List α} {k : Nat} (d : α) (h : k < l.length) : l.getD k d ∈ l := by
  rw [List.getD_eq_getElem?_getD, List.getElem?_eq_getElem h]
  exact List.getElem_mem h
theorem getD_some {α : Type} {l : List α} {k : Nat} (d : α) (h : k < l.length) : l[k]? = some (l.getD k d) := by
  rw [List.getD_eq_getElem?_getD, List.getElem?_eq_getElem h]
  rfl
/-! ### rows with one more number -/
def longer (rows : List (List Int)) (many : Nat) : List (List Int) := rows.flatMap fun r => (List.range many).map fun (k : Nat) => r ++ [(k : Int)]
def φ__law_longer : Phi := fun as P _ => ∃ (rows : List (List Int)) (many : Nat), as = [.fz (.list (rows.map rowI)), .fz (.int many)] ∧ many ≤ 1000 ∧ rows.length ≤ 1000 ∧ (∀ r ∈ rows, r.length ≤ 1000) ∧ P (.list ((longer rows many).map rowI))
theorem longer_len (rows : List (List Int)) (many : Nat) : (longer rows many).length = rows.length * many := by
  unfold longer
  rw [List.length_flatMap]
  simp [List.map_const', List.sum_replicate_nat]

theorem less_q {p q : Rat} {m n : Nat} {P : D → Prop} {PE : Str → Prop} (hp : Sz m p) (hq : Sz n q) (hl : m + n < 8000) (h : P (.bool (decide (p < q)))) : φ__law_less [.fz (qD p), .fz (qD q)] P PE := by
  refine ⟨_, _, _, _, m, n, rfl, hp.num, hp.den, hq.num, hq.den, hl, ?_⟩
  rwa [show decide (p.num * (q.den : Int) < q.num * p.den) = decide (p < q) from decide_eq_decide.mpr (Rat.lt_iff ..).symm]
def φ_is_number_below : Phi := fun as P _ => ∃ (d : D) (i : Int), as = [.fz d, .fz (.int i)] ∧ P (.bool (isInt d (some 0) (some (i - 1))))
theorem cmpQ_gt {p q : Rat} : cmpQ p q > 0 ↔ q < p := by
  unfold cmpQ
  by_cases h1 : q < p
  · simp [h1]
  · rw [if_neg h1]
    simp only [h1, iff_false]
    split <;> decide

/-! ### loops by the place -/
theorem range_split {n : Nat} {done : List Nat} {x : Nat} {rest : List Nat} (e : List.range n = done ++ x :: rest) : x = done.length ∧ done.length < n ∧ done = List.range done.length := by
  have hl : done.length < n := by
    have := congrArg List.length e
    simp at this
    omega
  have h1 := congrArg (fun l => l[done.length]?) e
  simp only [List.getElem?_append_right (Nat.le_refl _), Nat.sub_self, List.getElem?_cons_zero, List.getElem?_range hl] at h1
  refine ⟨(Option.some.inj h1).symm, hl, ?_⟩
  have h2 := congrArg (List.take done.length) e
  rw [List.take_left, List.take_range, Nat.min_eq_left (by omega)] at h2
  exact h2.symm
theorem forW_ix {g : Nat → D} {n : Nat} {body : D → Rho → (Rho → Prop) → Prop} {Q : Rho → Prop} (I : Nat → Rho → Prop) {ρ : Rho} (h0 : I 0 ρ)
    (hs : ∀ k ρ kk, k < n → I k ρ → (∀ ρ', I (k + 1) ρ' → kk ρ') → body (g k) ρ kk) (hd : ∀ ρ, I n ρ → Q ρ) : forW body ((List.range n).map g) ρ Q := by
  refine forW_inv (I := fun done ρ => I done.length ρ) h0 (fun done x rest ρ kk e hI hk => ?_) (fun ρ h => hd ρ (by rw [List.length_range] at h; exact h))
  obtain ⟨rfl, hl, _⟩ := range_split e
  exact hs _ _ _ hl hI fun ρ' h => hk ρ' (by rw [List.length_append, List.length_singleton]; exact h)
theorem foldW_ix {g : Nat → D} {n : Nat} {step : D → List D → (List D → Prop) → Prop} {Q : List D → Prop} (I : Nat → List D → Prop) {acc : List D} (h0 : I 0 acc)
    (hs : ∀ k acc kk, k < n → I k acc → (∀ acc', I (k + 1) acc' → kk acc') → step (g k) acc kk) (hd : ∀ acc, I n acc → Q acc) : foldW step ((List.range n).map g) acc Q := by
  refine foldW_inv (I := fun done acc => I done.length acc) h0 (fun done x rest acc kk e hI hk => ?_) (fun acc h => hd acc (by rw [List.length_range] at h; exact h))
  obtain ⟨rfl, hl, _⟩ := range_split e
  exact hs _ _ _ hl hI fun acc' h => hk acc' (by rw [List.length_append, List.length_singleton]; exact h)
theorem map_ix {α : Type} (emb : α → D) (d : α) (l : List α) : l.map emb = (List.range l.length).map fun k => emb (l.getD k d) := by
  refine List.ext_getElem (by simp) fun i h1 h2 => ?_
  simp only [List.length_map] at h1
  simp [h1]
theorem enumD_map {α : Type} (emb : α → D) (d : α) (l : List α) : enumD (l.map emb) = (List.range l.length).map fun (k : Nat) => PyData.tuple [.int k, emb (l.getD k d)] := by
  refine List.ext_getElem? fun i => ?_
  by_cases hi : i < l.length
  · rw [enumD_get (d := emb (l.getD i d)) (by rw [List.getElem?_map, getD_some d hi]; rfl), List.getElem?_map, List.getElem?_range hi]
    rfl
  · rw [List.getElem?_eq_none (by rw [enumD_length, List.length_map]; omega), List.getElem?_eq_none (by simp; omega)]
theorem cmp_gt (p q : Rat) : decide (cmpQ p q > 0) = decide (q < p) := decide_eq_decide.mpr cmpQ_gt
end DL

set_option Elab.async false
set_option linter.all false
set_option maxRecDepth 100000
set_option maxHeartbeats 4000000
namespace DL
open PySem PySem.Spec PyProof.Rows L2
/-! ### more of data -/
theorem cutL_lo {α : Type} (l : List α) (k : Nat) : cutL l (some (k : Int)) none = l.drop k := by
  unfold cutL
  rw [HT.sIx_nat, HT.sIx_none]
  rcases Nat.le_total k l.length with h | h
  · rw [Nat.min_eq_left h]
    exact List.take_of_length_le (by rw [List.length_drop]; omega)
  · rw [Nat.min_eq_right h, List.drop_of_length_le h, List.drop_of_length_le (Nat.le_refl _), List.take_nil]
theorem cutL_hi {α : Type} (l : List α) (k : Nat) : cutL l none (some (k : Int)) = l.take k := by
  unfold cutL
  rw [HT.sIx_none, HT.sIx_nat, List.drop_zero, Nat.sub_zero]
  rcases Nat.le_total k l.length with h | h
  · rw [Nat.min_eq_left h]
  · rw [Nat.min_eq_right h, List.take_of_length_le h, List.take_of_length_le (Nat.le_refl _)]
theorem w_cutT {a : List D} {lo hi : Option Int} {Q : D → Prop} : dCut (.tuple a) lo hi Q = Q (.tuple (cutL a lo hi)) := rfl
theorem w_cutL {a : List D} {lo hi : Option Int} {Q : D → Prop} : dCut (.list a) lo hi Q = Q (.list (cutL a lo hi)) := rfl
theorem shpS {a : Str} (h : PyData.canLay0 (.str a) = true) : shp (.str a) := by
  unfold shp SeqAt.shaped
  rw [h]
  rfl
theorem eqvS (a b : Str) : PyData.eqv (.str a) (.str b) = decide (a = b) := by
  rw [PyData.eqv]
  rw [Bool.eq_iff_iff, beq_iff_eq, decide_eq_true_iff]
theorem dEqS {a b : Str} {Q : D → Prop} (ha : PyData.canLay0 (.str a) = true) (hb : PyData.canLay0 (.str b) = true) (h : Q (.bool (decide (a = b)))) : dEq (.str a) (.str b) Q := ⟨shpS ha, shpS hb, by rw [eqvS]; exact h⟩
theorem dNeS {a b : Str} {Q : D → Prop} (ha : PyData.canLay0 (.str a) = true) (hb : PyData.canLay0 (.str b) = true) (h : Q (.bool (!decide (a = b)))) : dNe (.str a) (.str b) Q := ⟨shpS ha, shpS hb, by rw [eqvS]; exact h⟩
theorem dEqTuI {a b : List Int} {Q : D → Prop} (h : Q (.bool (decide (a = b)))) : dEq (rowI a) (rowI b) Q := by
  have := dEqT (α := Tu Int) (x := ⟨a⟩) (y := ⟨b⟩) (Q := Q) (by
    rw [show decide ((⟨a⟩ : Tu Int) = ⟨b⟩) = decide (a = b) from decide_eq_decide.mpr ⟨fun e => congrArg Tu.l e, fun e => by rw [e]⟩]
    exact h)
  exact this
/-- a list or tuple that has items is not () -/
theorem dNe_tup0 {a : List D} {Q : D → Prop} (hs : shp (.tuple a)) (h : Q (.bool (!a.isEmpty))) : dNe (.tuple a) (.tuple []) Q := by
  refine ⟨hs, rfl, ?_⟩
  cases a with
  | nil => exact h
  | cons x a => exact h
theorem dEq_tup0 {a : List D} {Q : D → Prop} (hs : shp (.tuple a)) (h : Q (.bool a.isEmpty)) : dEq (.tuple a) (.tuple []) Q := by
  refine ⟨hs, rfl, ?_⟩
  cases a with
  | nil => exact h
  | cons x a => exact h
theorem dEq_list0 {a : List D} {Q : D → Prop} (hs : shp (.list a)) (h : Q (.bool a.isEmpty)) : dEq (.list a) (.list []) Q := by
  refine ⟨hs, rfl, ?_⟩
  cases a with
  | nil => exact h
  | cons x a => exact h
theorem dNe_list0 {a : List D} {Q : D → Prop} (hs : shp (.list a)) (h : Q (.bool (!a.isEmpty))) : dNe (.list a) (.list []) Q := by
  refine ⟨hs, rfl, ?_⟩
  cases a with
  | nil => exact h
  | cons x a => exact h
section
variable {b : Bool} {i : Int} {s : Str} {l : List D}
theorem wi_int_n : isiD "int" .none = false := rfl
theorem wi_int_b : isiD "int" (.bool b) = true := rfl
theorem wi_int_i : isiD "int" (.int i) = true := rfl
theorem wi_int_s : isiD "int" (.str s) = false := rfl
theorem wi_int_l : isiD "int" (.list l) = false := rfl
theorem wi_int_t : isiD "int" (.tuple l) = false := rfl
theorem wi_bool_n : isiD "bool" .none = false := rfl
theorem wi_bool_b : isiD "bool" (.bool b) = true := rfl
theorem wi_bool_i : isiD "bool" (.int i) = false := rfl
theorem wi_bool_s : isiD "bool" (.str s) = false := rfl
theorem wi_bool_l : isiD "bool" (.list l) = false := rfl
theorem wi_bool_t : isiD "bool" (.tuple l) = false := rfl
theorem wi_str_n : isiD "str" .none = false := rfl
theorem wi_str_b : isiD "str" (.bool b) = false := rfl
theorem wi_str_i : isiD "str" (.int i) = false := rfl
theorem wi_str_s : isiD "str" (.str s) = true := rfl
theorem wi_str_l : isiD "str" (.list l) = false := rfl
theorem wi_str_t : isiD "str" (.tuple l) = false := rfl
theorem wi_tuple_n : isiD "tuple" .none = false := rfl
theorem wi_tuple_b : isiD "tuple" (.bool b) = false := rfl
theorem wi_tuple_i : isiD "tuple" (.int i) = false := rfl
theorem wi_tuple_s : isiD "tuple" (.str s) = false := rfl
theorem wi_tuple_l : isiD "tuple" (.list l) = false := rfl
theorem wi_tuple_t : isiD "tuple" (.tuple l) = true := rfl
theorem wi_list_n : isiD "list" .none = false := rfl
theorem wi_list_b : isiD "list" (.bool b) = false := rfl
theorem wi_list_i : isiD "list" (.int i) = false := rfl
theorem wi_list_s : isiD "list" (.str s) = false := rfl
theorem wi_list_l : isiD "list" (.list l) = true := rfl
theorem wi_list_t : isiD "list" (.tuple l) = false := rfl
end
theorem dInI {neg : Bool} {i : Int} {l : List Int} {Q : D → Prop} (h : Q (.bool (if neg then !decide (i ∈ l) else decide (i ∈ l)))) : dIn neg (.int i) (.tuple (l.map PyData.int)) Q := by
  refine ⟨td_shp (i : Int) (by decide), td_shp (α := Tu Int) ⟨l⟩ (by decide), ?_⟩
  have e : (l.map PyData.int).any (fun z => PyData.eqv z (.int i)) = decide (i ∈ l) := by
    rw [List.any_map, Bool.eq_iff_iff, List.any_eq_true, decide_eq_true_iff]
    constructor
    · rintro ⟨x, hx, hc⟩
      have := (Td.inj (α := Int) x i).mp hc
      rwa [← this]
    · intro h
      exact ⟨i, h, (Td.inj (α := Int) i i).mpr rfl⟩
  show Q (.bool (if neg = true then _ else _))
  rw [e]
  exact h
theorem dInIL {neg : Bool} {i : Int} {l : List Int} {Q : D → Prop} (h : Q (.bool (if neg then !decide (i ∈ l) else decide (i ∈ l)))) : dIn neg (.int i) (.list (l.map PyData.int)) Q := by
  refine ⟨td_shp (i : Int) (by decide), td_shp (α := List Int) l (by decide), ?_⟩
  have e : (l.map PyData.int).any (fun z => PyData.eqv z (.int i)) = decide (i ∈ l) := by
    rw [List.any_map, Bool.eq_iff_iff, List.any_eq_true, decide_eq_true_iff]
    constructor
    · rintro ⟨x, hx, hc⟩
      have := (Td.inj (α := Int) x i).mp hc
      rwa [← this]
    · intro h
      exact ⟨i, h, (Td.inj (α := Int) i i).mpr rfl⟩
  show Q (.bool (if neg = true then _ else _))
  rw [e]
  exact h
theorem snoc_ind {α : Type} {M : List α → Prop} (h0 : M []) (hs : ∀ l a, M l → M (l ++ [a])) (l : List α) : M l := by
  have key : ∀ l : List α, M l.reverse := by
    intro l
    induction l with
    | nil => exact h0
    | cons x l ih => rw [List.reverse_cons]; exact hs _ _ ih
  have := key l.reverse
  rwa [List.reverse_reverse] at this
end DL

set_option Elab.async false
set_option linter.all false
set_option maxRecDepth 100000
set_option maxHeartbeats 4000000
namespace DL
open PySem PySem.Spec PyProof.Rows L2
/-! ### more of what many laws need -/
theorem div_eq' (p q : Rat) : p / q = Rat.divInt (p.num * q.den) (p.den * q.num) := by
  have e1 : p / q = Rat.divInt p.num p.den / Rat.divInt q.num q.den := by rw [self_divInt, self_divInt]
  rw [e1, Rat.div_def, self_divInt q, Rat.inv_def, Rat.divInt_mul_divInt]
theorem Sz.div {m n p : Nat} {x y : Rat} (h : Sz m x) (k : Sz n y) (hy : y ≠ 0) (l : m + n ≤ p) : Sz p (x / y) := by
  rw [div_eq']
  exact Sz.divInt (h.num.mul k.den) (h.den.mul k.num) (mul_ne (den_ne x) fun e => hy (Rat.num_eq_zero.mp e)) l l
def φ_over : Phi := fun as P _ => ∃ (p q : Rat) (m n : Nat), as = [.fz (qD p), .fz (qD q)] ∧ Sz m p ∧ Sz n q ∧ m + n < 8000 ∧ q ≠ 0 ∧ P (qD (p / q))
theorem kif {kk : List D → Prop} {c : Bool} {A B : List D} (h : kk (if c = true then A else B)) : if c = true then kk A else kk B := by
  cases c <;> exact h
theorem dEqQ {a b : Rat} {Q : D → Prop} (h : Q (.bool (decide (a = b)))) : dEq (qD a) (qD b) Q := dEqT (α := Rat) h
theorem dNeTuQ {a b : List Rat} {Q : D → Prop} (h : Q (.bool (!decide (a = b)))) : dNe (rowQ a) (rowQ b) Q := dNeTu h
theorem at_qD {l : List Rat} {x : Nat} (h : x < l.length) : atI (l.map qD) (x : Int) = some (qD (l.getD x 0)) := at_map (getD_some 0 h)
/-! keys of dicts -/
abbrev NK := NestedKey
theorem nk_int (i : Int) : nkOf (.int i) = some (.num i) := by rw [nkOf]
theorem nk_nil : nksOf [] = some [] := by rw [nksOf]
theorem nk_cons {d : D} {k : NK} {ds : List D} {ks : List NK} (h1 : nkOf d = some k) (h2 : nksOf ds = some ks) : nksOf (d :: ds) = some (k :: ks) := by rw [nksOf, h1, h2]
theorem nk_tup {ds : List D} {ks : List NK} (h : nksOf ds = some ks) : nkOf (.tuple ds) = some (.tup ks) := by
  rw [nkOf, h]
  rfl
def nkQ (q : Rat) : NK := .tup [.num q.num, .num (q.den : Int)]
def nkR (l : List Rat) : NK := .tup (l.map nkQ)
theorem nk_q (q : Rat) : nkOf (qD q) = some (nkQ q) := nk_tup (nk_cons (nk_int _) (nk_cons (nk_int _) nk_nil))
theorem nks_qs : ∀ l : List Rat, nksOf (l.map qD) = some (l.map nkQ)
  | [] => nk_nil
  | q :: l => nk_cons (nk_q q) (nks_qs l)
theorem depth_nks : ∀ l : List Rat, NestedKey.depthAll (l.map nkQ) ≤ 3
  | [] => by rw [List.map_nil, NestedKey.depthAll]; decide
  | q :: l => by
    have := depth_nks l
    simp only [List.map_cons, NestedKey.depthAll, nkQ, NestedKey.depth]
    omega
theorem keyT_row (l : List Rat) : keyT (rowQ l) = some (nkR l) := by
  have e : nkOf (rowQ l) = some (nkR l) := nk_tup (nks_qs l)
  show (match nkOf (rowQ l) with
    | some k => if k.depth ≤ 8 then some k else none
    | none => none) = _
  rw [e]
  have := depth_nks l
  show (if (nkR l).depth ≤ 8 then some (nkR l) else none) = _
  rw [if_pos]
  unfold nkR
  simp only [NestedKey.depth]
  omega
theorem nkQ_inj {p q : Rat} (h : nkQ p = nkQ q) : p = q := by
  unfold nkQ at h
  simp only [NestedKey.tup.injEq, List.cons.injEq, NestedKey.num.injEq, and_true] at h
  exact Rat.ext h.1 (by omega)
theorem nkR_inj {a b : List Rat} (h : nkR a = nkR b) : a = b := by
  unfold nkR at h
  simp only [NestedKey.tup.injEq] at h
  exact (List.map_inj_right (f := nkQ) fun _ _ => nkQ_inj).mp h
theorem nkR_data (l : List Rat) : (nkR l).data = rowQ l := (nkOf_data _ _ (nk_tup (nks_qs l))).1
end DL

set_option Elab.async false
set_option linter.all false
set_option maxRecDepth 100000
set_option maxHeartbeats 4000000
namespace DL
open PySem PySem.Spec PyProof.Rows L2
/-! the defs as terms (printed by gen.py) -/
def d_lowest : DF := ⟨"lowest", ["a", "b", "common"], ["a", "b"],
    (.cons (.set 2 (.bi .gcd (.cons (.v 0) (.cons (.v 1) .nil))))
    (.cons (.ife (.cmp .Lt (.v 1) (.int 0)) (.cons (.set 2 (.neg (.v 2)))
    .nil) .nil)
    (.cons (.ret (.tup (.cons (.bin .FloorDiv (.v 0) (.v 2)) (.cons (.bin .FloorDiv (.v 1) (.v 2)) .nil))))
    .nil)))⟩
def d_plus : DF := ⟨"plus", ["p", "q"], ["p", "q"],
    (.cons (.ret (.call "lowest" (.cons (.bin .Add (.bin .Mult (.sub (.v 0) (.int 0)) (.sub (.v 1) (.int 1))) (.bin .Mult (.sub (.v 1) (.int 0)) (.sub (.v 0) (.int 1)))) (.cons (.bin .Mult (.sub (.v 0) (.int 1)) (.sub (.v 1) (.int 1))) .nil))))
    .nil)⟩
def d_times : DF := ⟨"times", ["p", "q"], ["p", "q"],
    (.cons (.ret (.call "lowest" (.cons (.bin .Mult (.sub (.v 0) (.int 0)) (.sub (.v 1) (.int 0))) (.cons (.bin .Mult (.sub (.v 0) (.int 1)) (.sub (.v 1) (.int 1))) .nil))))
    .nil)⟩
def d_over : DF := ⟨"over", ["p", "q"], ["p", "q"],
    (.cons (.ife (.cmp .Eq (.sub (.v 1) (.int 0)) (.int 0)) (.cons (.rais "NotAllowed")
    .nil) .nil)
    (.cons (.ret (.call "lowest" (.cons (.bin .Mult (.sub (.v 0) (.int 0)) (.sub (.v 1) (.int 1))) (.cons (.bin .Mult (.sub (.v 0) (.int 1)) (.sub (.v 1) (.int 0))) .nil))))
    .nil))⟩
def d_sign_of : DF := ⟨"sign_of", ["number"], ["number"],
    (.cons (.ret (.bin .Sub (.cmp .Gt (.v 0) (.int 0)) (.cmp .Lt (.v 0) (.int 0))))
    .nil)⟩
def d_compare : DF := ⟨"compare", ["p", "q"], ["p", "q"],
    (.cons (.ret (.call "sign_of" (.cons (.bin .Sub (.bin .Mult (.sub (.v 0) (.int 0)) (.sub (.v 1) (.int 1))) (.bin .Mult (.sub (.v 1) (.int 0)) (.sub (.v 0) (.int 1)))) .nil)))
    .nil)⟩
def d_total_of : DF := ⟨"total_of", ["ratios", "told", "one"], ["ratios"],
    (.cons (.set 1 (.g "NOTHING"))
    (.cons (.loop (.n 2) (.seq (.v 0)) (.cons (.set 1 (.call "plus" (.cons (.v 1) (.cons (.v 2) .nil))))
    .nil))
    (.cons (.ret (.v 1))
    .nil)))⟩
def d_signs_of : DF := ⟨"signs_of", ["channel"], ["channel"],
    (.cons (.ret (.bi .len (.cons (.sub (.v 0) (.int 0)) .nil)))
    .nil)⟩
def d_column_of : DF := ⟨"column_of", ["prior", "channel", "y", "chance", "row"], ["prior", "channel", "y"],
    (.cons (.ret (.bi .tuple (.cons (.comp [("chance", 3), ("row", 4)] (.call "times" (.cons (.v 3) (.cons (.sub (.v 4) (.v 2)) .nil))) (.t (.cons (.n 3) (.cons (.n 4) .nil))) (.zip (.v 0) (.v 1)) .no) .nil)))
    .nil)⟩
def d_chance_of : DF := ⟨"chance_of", ["prior", "channel", "y"], ["prior", "channel", "y"],
    (.cons (.ret (.call "total_of" (.cons (.call "column_of" (.cons (.v 0) (.cons (.v 1) (.cons (.v 2) .nil)))) .nil)))
    .nil)⟩
def d_behind : DF := ⟨"behind", ["prior", "channel", "y", "chance", "one"], ["prior", "channel", "y"],
    (.cons (.set 3 (.call "chance_of" (.cons (.v 0) (.cons (.v 1) (.cons (.v 2) .nil)))))
    (.cons (.ife (.cmp .Eq (.v 3) (.g "NOTHING")) (.cons (.rais "Missing")
    .nil) .nil)
    (.cons (.ret (.bi .tuple (.cons (.comp [("one", 4)] (.call "over" (.cons (.v 4) (.cons (.v 3) .nil))) (.n 4) (.seq (.call "column_of" (.cons (.v 0) (.cons (.v 1) (.cons (.v 2) .nil))))) .no) .nil)))
    .nil)))⟩
def d_spread : DF := ⟨"spread", ["prior", "channel", "found", "y", "chance", "row"], ["prior", "channel"],
    (.cons (.dnew 2)
    (.cons (.loop (.n 3) (.rng (.cons (.call "signs_of" (.cons (.v 1) .nil)) .nil)) (.cons (.set 4 (.call "chance_of" (.cons (.v 0) (.cons (.v 1) (.cons (.v 3) .nil)))))
    (.cons (.ife (.cmp .NotEq (.v 4) (.g "NOTHING")) (.cons (.set 5 (.call "behind" (.cons (.v 0) (.cons (.v 1) (.cons (.v 3) .nil)))))
    (.cons (.dput 2 (.v 5) (.call "plus" (.cons (.dget 2 (.v 5) (.g "NOTHING")) (.cons (.v 4) .nil))))
    .nil)) .nil)
    .nil)))
    (.cons (.ret (.bi .tuple (.cons (.dsort true 2) .nil)))
    .nil)))⟩
def d_cascade : DF := ⟨"cascade", ["channel", "garbling", "found", "row", "line", "z", "one", "parts"], ["channel", "garbling"],
    (.cons (.own 2 (.lst .nil))
    (.cons (.loop (.n 3) (.seq (.v 0)) (.cons (.own 4 (.lst .nil))
    (.cons (.loop (.n 5) (.rng (.cons (.bi .len (.cons (.sub (.v 1) (.int 0)) .nil)) .nil)) (.cons (.app 4 (.call "total_of" (.cons (.comp [("one", 6), ("parts", 7)] (.call "times" (.cons (.v 6) (.cons (.sub (.v 7) (.v 5)) .nil))) (.t (.cons (.n 6) (.cons (.n 7) .nil))) (.zip (.v 3) (.v 1)) .no) .nil)))
    .nil))
    (.cons (.app 2 (.bi .tuple (.cons (.b 4) .nil)))
    .nil))))
    (.cons (.ret (.bi .tuple (.cons (.b 2) .nil)))
    .nil)))⟩
def d_channel_of_spread : DF := ⟨"channel_of_spread", ["prior", "plan", "x", "chance", "found", "row", "share", "_"], ["prior", "plan"],
    (.cons (.loop (.t (.cons (.n 2) (.cons (.n 3) .nil))) (.enum (.v 0)) (.cons (.ife (.cmp .NotEq (.call "total_of" (.cons (.comp [("row", 5), ("share", 6)] (.call "times" (.cons (.v 6) (.cons (.sub (.v 5) (.v 2)) .nil))) (.t (.cons (.n 5) (.cons (.n 6) .nil))) (.seq (.v 1)) .no) .nil)) (.v 3)) (.cons (.rais "Missing")
    .nil) .nil)
    .nil))
    (.cons (.own 4 (.lst .nil))
    (.cons (.loop (.t (.cons (.n 2) (.cons (.n 3) .nil))) (.enum (.v 0)) (.cons (.ife (.cmp .Eq (.v 3) (.g "NOTHING")) (.cons (.app 4 (.bi .tuple (.cons (.comp [("_", 7), ("share", 6)] (.v 6) (.t (.cons (.n 7) (.cons (.n 6) .nil))) (.seq (.v 1)) .no) .nil)))
    .nil) (.cons (.app 4 (.bi .tuple (.cons (.comp [("row", 5), ("share", 6)] (.call "over" (.cons (.call "times" (.cons (.v 6) (.cons (.sub (.v 5) (.v 2)) .nil))) (.cons (.v 3) .nil))) (.t (.cons (.n 5) (.cons (.n 6) .nil))) (.seq (.v 1)) .no) .nil)))
    .nil))
    .nil))
    (.cons (.ret (.bi .tuple (.cons (.b 4) .nil)))
    .nil))))⟩
def d_falling : DF := ⟨"falling", ["ratios", "found", "one", "at", "other"], ["ratios"],
    (.cons (.own 1 (.lst .nil))
    (.cons (.loop (.n 2) (.seq (.v 0)) (.cons (.set 3 (.bi .len (.cons (.comp [("other", 4)] (.v 4) (.n 4) (.seq (.b 1)) (.so (.cmp .GtE (.call "compare" (.cons (.v 4) (.cons (.v 2) .nil))) (.int 0)))) .nil)))
    (.cons (.ins 1 (.v 3) (.v 2))
    .nil)))
    (.cons (.ret (.b 1))
    .nil)))⟩
def d_guesses_for : DF := ⟨"guesses_for", ["weights", "told", "k", "one"], ["weights"],
    (.cons (.set 1 (.g "NOTHING"))
    (.cons (.loop (.t (.cons (.n 2) (.cons (.n 3) .nil))) (.enum (.call "falling" (.cons (.v 0) .nil))) (.cons (.set 1 (.call "plus" (.cons (.v 1) (.cons (.call "times" (.cons (.tup (.cons (.bin .Add (.v 2) (.int 1)) (.cons (.int 1) .nil))) (.cons (.v 3) .nil))) .nil))))
    .nil))
    (.cons (.ret (.v 1))
    .nil)))⟩
def d_guesses_needed : DF := ⟨"guesses_needed", ["prior"], ["prior"],
    (.cons (.ret (.call "guesses_for" (.cons (.v 0) .nil)))
    .nil)⟩
def d_guesses_behind : DF := ⟨"guesses_behind", ["prior", "channel", "told", "y"], ["prior", "channel"],
    (.cons (.set 2 (.g "NOTHING"))
    (.cons (.loop (.n 3) (.rng (.cons (.call "signs_of" (.cons (.v 1) .nil)) .nil)) (.cons (.set 2 (.call "plus" (.cons (.v 2) (.cons (.call "guesses_for" (.cons (.call "column_of" (.cons (.v 0) (.cons (.v 1) (.cons (.v 3) .nil)))) .nil)) .nil))))
    .nil))
    (.cons (.ret (.v 2))
    .nil)))⟩
def d__law_lowest : DF := ⟨"_law_lowest", ["a", "b", "c", "d"], ["a", "b"],
    (.cons (.unp (.cons (.n 2) (.cons (.n 3) .nil)) (.tup (.cons (.bi .abs (.cons (.v 0) .nil)) (.cons (.v 1) .nil))))
    (.cons (.whl (.cmp .Gt (.v 3) (.int 0)) (.cons (.unp (.cons (.n 2) (.cons (.n 3) .nil)) (.tup (.cons (.v 3) (.cons (.bin .Sub (.v 2) (.bin .Mult (.v 3) (.bin .FloorDiv (.v 2) (.v 3)))) .nil))))
    .nil))
    (.cons (.ret (.tup (.cons (.bin .FloorDiv (.v 0) (.v 2)) (.cons (.bin .FloorDiv (.v 1) (.v 2)) .nil))))
    .nil)))⟩
def d__law_plus : DF := ⟨"_law_plus", ["p", "q"], ["p", "q"],
    (.cons (.ret (.call "_law_lowest" (.cons (.bin .Add (.bin .Mult (.sub (.v 0) (.int 0)) (.sub (.v 1) (.int 1))) (.bin .Mult (.sub (.v 1) (.int 0)) (.sub (.v 0) (.int 1)))) (.cons (.bin .Mult (.sub (.v 0) (.int 1)) (.sub (.v 1) (.int 1))) .nil))))
    .nil)⟩
def d__law_times : DF := ⟨"_law_times", ["p", "q"], ["p", "q"],
    (.cons (.ret (.call "_law_lowest" (.cons (.bin .Mult (.sub (.v 0) (.int 0)) (.sub (.v 1) (.int 0))) (.cons (.bin .Mult (.sub (.v 0) (.int 1)) (.sub (.v 1) (.int 1))) .nil))))
    .nil)⟩
def d__law_less : DF := ⟨"_law_less", ["p", "q"], ["p", "q"],
    (.cons (.ret (.cmp .Lt (.bin .Mult (.sub (.v 0) (.int 0)) (.sub (.v 1) (.int 1))) (.bin .Mult (.sub (.v 1) (.int 0)) (.sub (.v 0) (.int 1)))))
    .nil)⟩
def d__law_total : DF := ⟨"_law_total", ["ratios", "told", "p"], ["ratios"],
    (.cons (.set 1 (.tup (.cons (.int 0) (.cons (.int 1) .nil))))
    (.cons (.loop (.n 2) (.seq (.v 0)) (.cons (.set 1 (.call "_law_plus" (.cons (.v 1) (.cons (.v 2) .nil))))
    .nil))
    (.cons (.ret (.v 1))
    .nil)))⟩
def d__law_row : DF := ⟨"_law_row", ["draw", "many", "row", "k", "one"], ["draw", "many"],
    (.cons (.own 2 (.comp [("k", 3)] (.sub (.lst (.cons (.int 0) (.cons (.int 1) (.cons (.int 1) (.cons (.int 2) (.cons (.int 3) .nil)))))) (.call "_law_take" (.dr 0 (.cons (.int 5) .nil)))) (.n 3) (.rng (.cons (.v 1) .nil)) .no))
    (.cons (.augp 2 (.call "_law_take" (.dr 0 (.cons (.v 1) .nil))) .Add (.int 1))
    (.cons (.ret (.bi .tuple (.cons (.comp [("one", 4)] (.call "_law_lowest" (.cons (.v 4) (.cons (.bi .sum (.cons (.b 2) .nil)) .nil))) (.n 4) (.seq (.b 2)) .no) .nil)))
    .nil)))⟩
def d__law_channel : DF := ⟨"_law_channel", ["draw", "m", "n", "rows", "x"], ["draw", "m", "n"],
    (.cons (.own 3 (.comp [("x", 4)] (.call "_law_row" (.dr 0 (.cons (.v 2) .nil))) (.n 4) (.rng (.cons (.v 1) .nil)) .no))
    (.cons (.ife (.and (.cmp .Gt (.v 1) (.int 1)) (.cmp .Eq (.call "_law_take" (.dr 0 (.cons (.int 4) .nil))) (.int 0))) (.cons (.put 3 (.call "_law_take" (.dr 0 (.cons (.v 1) .nil))) (.sub (.b 3) (.call "_law_take" (.dr 0 (.cons (.v 1) .nil)))))
    .nil) .nil)
    (.cons (.ret (.bi .tuple (.cons (.b 3) .nil)))
    .nil)))⟩
def d__law_gains : DF := ⟨"_law_gains", ["draw", "m", "most", "w", "x"], ["draw", "m", "most"],
    (.cons (.ret (.bi .tuple (.cons (.comp [("w", 3)] (.bi .tuple (.cons (.comp [("x", 4)] (.sub (.lst (.cons (.int 0) (.cons (.int 1) (.cons (.int 2) (.cons (.int 5) (.cons (.neg (.int 3)) .nil)))))) (.call "_law_take" (.dr 0 (.cons (.int 5) .nil)))) (.n 4) (.rng (.cons (.v 1) .nil)) .no) .nil)) (.n 3) (.rng (.cons (.bin .Add (.int 1) (.call "_law_take" (.dr 0 (.cons (.v 2) .nil)))) .nil)) .no) .nil)))
    .nil)⟩
def d__law_worth : DF := ⟨"_law_worth", ["prior", "channel", "gains", "told", "y", "best", "row", "one", "x"], ["prior", "channel", "gains"],
    (.cons (.set 3 (.tup (.cons (.int 0) (.cons (.int 1) .nil))))
    (.cons (.loop (.n 4) (.rng (.cons (.bi .len (.cons (.sub (.v 1) (.int 0)) .nil)) .nil)) (.cons (.set 5 .non)
    (.cons (.loop (.n 6) (.seq (.v 2)) (.cons (.set 7 (.tup (.cons (.int 0) (.cons (.int 1) .nil))))
    (.cons (.loop (.n 8) (.rng (.cons (.bi .len (.cons (.v 0) .nil)) .nil)) (.cons (.set 7 (.call "_law_plus" (.cons (.v 7) (.cons (.call "_law_times" (.cons (.call "_law_times" (.cons (.sub (.v 0) (.v 8)) (.cons (.sub (.sub (.v 1) (.v 8)) (.v 4)) .nil))) (.cons (.tup (.cons (.sub (.v 6) (.v 8)) (.cons (.int 1) .nil))) .nil))) .nil))))
    .nil))
    (.cons (.ife (.or (.cmp .Is (.v 5) .non) (.call "_law_less" (.cons (.v 5) (.cons (.v 7) .nil)))) (.cons (.set 5 (.v 7))
    .nil) .nil)
    .nil))))
    (.cons (.set 3 (.call "_law_plus" (.cons (.v 3) (.cons (.v 5) .nil))))
    .nil))))
    (.cons (.ret (.v 3))
    .nil)))⟩
def d__law_told : DF := ⟨"_law_told", ["prior", "plan"], ["prior", "plan"],
    (.cons (.try1 (.cons (.ret (.call "channel_of_spread" (.cons (.v 0) (.cons (.v 1) .nil))))
    .nil) "Missing" .non)
    .nil)⟩
def d__law_adds_up : DF := ⟨"_law_adds_up", ["prior", "plan", "x", "row", "share"], ["prior", "plan"],
    (.cons (.loop (.n 2) (.rng (.cons (.bi .len (.cons (.v 0) .nil)) .nil)) (.cons (.ife (.cmp .NotEq (.call "_law_total" (.cons (.comp [("row", 3), ("share", 4)] (.call "_law_times" (.cons (.v 4) (.cons (.sub (.v 3) (.v 2)) .nil))) (.t (.cons (.n 3) (.cons (.n 4) .nil))) (.seq (.v 1)) .no) .nil)) (.sub (.v 0) (.v 2))) (.cons (.ret (.bl false))
    .nil) .nil)
    .nil))
    (.cons (.ret (.bl true))
    .nil))⟩
def d__law_needed : DF := ⟨"_law_needed", ["weights", "left", "told", "k", "best", "one"], ["weights"],
    (.cons (.own 1 (.bi .list (.cons (.v 0) .nil)))
    (.cons (.set 2 (.tup (.cons (.int 0) (.cons (.int 1) .nil))))
    (.cons (.set 3 (.int 0))
    (.cons (.whl (.cmp .NotEq (.b 1) (.lst .nil)) (.cons (.set 4 (.sub (.b 1) (.int 0)))
    (.cons (.loopb (.n 5) 1 (.cons (.set 4 (.ite (.call "_law_less" (.cons (.v 4) (.cons (.v 5) .nil))) (.v 5) (.v 4)))
    .nil))
    (.cons (.rem 1 (.v 4))
    (.cons (.set 3 (.bin .Add (.v 3) (.int 1)))
    (.cons (.set 2 (.call "_law_plus" (.cons (.v 2) (.cons (.call "_law_times" (.cons (.tup (.cons (.v 3) (.cons (.int 1) .nil))) (.cons (.v 4) .nil))) .nil))))
    .nil))))))
    (.cons (.ret (.v 2))
    .nil)))))⟩
def d_law : DF := ⟨"law", ["script", "draw", "turn", "m", "n", "prior", "channel", "plan", "made", "x", "due", "other", "one", "need", "behind_v", "less", "row", "share", "y", "p"], ["script"],
    (.cons (.loop (.n 2) (.rng (.cons (.int 2) .nil)) (.cons (.unp (.cons (.n 3) (.cons (.n 4) .nil)) (.tup (.cons (.bin .Add (.int 1) (.call "_law_take" (.dr 1 (.cons (.int 4) .nil)))) (.cons (.bin .Add (.int 1) (.call "_law_take" (.dr 1 (.cons (.int 4) .nil)))) .nil))))
    (.cons (.unp (.cons (.n 5) (.cons (.n 6) .nil)) (.tup (.cons (.call "_law_row" (.dr 1 (.cons (.v 3) .nil))) (.cons (.call "_law_channel" (.dr 1 (.cons (.v 3) (.cons (.v 4) .nil)))) .nil))))
    (.cons (.set 7 (.call "spread" (.cons (.v 5) (.cons (.v 6) .nil))))
    (.cons (.set 8 (.call "_law_told" (.cons (.v 5) (.cons (.v 7) .nil))))
    (.cons (.ife (.or (.cmp .Is (.v 8) .non) (.or (.not (.isi (.v 8) "tuple")) (.or (.cmp .NotEq (.bi .len (.cons (.v 8) .nil)) (.v 3)) (.cmp .NotEq (.call "spread" (.cons (.v 5) (.cons (.v 8) .nil))) (.v 7))))) (.cons (.ret (.bl false))
    .nil) .nil)
    (.cons (.loop (.n 9) (.rng (.cons (.v 3) .nil)) (.cons (.set 10 (.comp [("row", 16), ("share", 17)] (.v 17) (.t (.cons (.n 16) (.cons (.n 17) .nil))) (.seq (.v 7)) .no))
    (.cons (.ife (.cmp .Gt (.sub (.sub (.v 5) (.v 9)) (.int 0)) (.int 0)) (.cons (.set 10 (.comp [("row", 16), ("share", 17)] (.call "_law_lowest" (.cons (.bin .Mult (.bin .Mult (.sub (.v 17) (.int 0)) (.sub (.sub (.v 16) (.v 9)) (.int 0))) (.sub (.sub (.v 5) (.v 9)) (.int 1))) (.cons (.bin .Mult (.bin .Mult (.sub (.v 17) (.int 1)) (.sub (.sub (.v 16) (.v 9)) (.int 1))) (.sub (.sub (.v 5) (.v 9)) (.int 0))) .nil))) (.t (.cons (.n 16) (.cons (.n 17) .nil))) (.seq (.v 7)) .no))
    .nil) .nil)
    (.cons (.ife (.cmp .NotEq (.sub (.v 8) (.v 9)) (.bi .tuple (.cons (.v 10) .nil))) (.cons (.ret (.bl false))
    .nil) .nil)
    .nil))))
    (.cons (.set 11 (.bi .tuple (.cons (.comp [("row", 16), ("share", 17)] (.tup (.cons (.call "_law_row" (.dr 1 (.cons (.v 3) .nil))) (.cons (.v 17) .nil))) (.t (.cons (.n 16) (.cons (.n 17) .nil))) (.seq (.v 7)) .no) .nil)))
    (.cons (.loop (.n 12) (.seq (.lst (.cons (.v 11) (.cons (.bin .Add (.cut (.v 7) .no (.so (.int 1))) (.cut (.v 11) (.so (.int 1)) .no)) (.cons (.rtup (.v 7)) .nil))))) (.cons (.ife (.cmp .NotEq (.cmp .IsNot (.call "_law_told" (.cons (.v 5) (.cons (.v 12) .nil))) .non) (.call "_law_adds_up" (.cons (.v 5) (.cons (.v 12) .nil)))) (.cons (.ret (.bl false))
    .nil) .nil)
    .nil))
    (.cons (.set 13 (.call "_law_needed" (.cons (.v 5) .nil)))
    (.cons (.set 14 (.call "_law_total" (.cons (.comp [("y", 18)] (.call "_law_needed" (.cons (.comp [("p", 19), ("row", 16)] (.call "_law_times" (.cons (.v 19) (.cons (.sub (.v 16) (.v 18)) .nil))) (.t (.cons (.n 19) (.cons (.n 16) .nil))) (.zip (.v 5) (.v 6)) .no) .nil)) (.n 18) (.rng (.cons (.v 4) .nil)) .no) .nil)))
    (.cons (.ife (.or (.cmp .NotEq (.call "guesses_needed" (.cons (.v 5) .nil)) (.v 13)) (.or (.cmp .NotEq (.call "guesses_behind" (.cons (.v 5) (.cons (.v 6) .nil))) (.v 14)) (.call "_law_less" (.cons (.v 13) (.cons (.v 14) .nil))))) (.cons (.ret (.bl false))
    .nil) .nil)
    (.cons (.set 15 (.call "cascade" (.cons (.v 6) (.cons (.call "_law_channel" (.dr 1 (.cons (.v 4) (.cons (.bin .Add (.int 1) (.call "_law_take" (.dr 1 (.cons (.int 3) .nil)))) .nil)))) .nil))))
    (.cons (.ife (.call "_law_less" (.cons (.call "guesses_behind" (.cons (.v 5) (.cons (.v 15) .nil))) (.cons (.v 14) .nil))) (.cons (.ret (.bl false))
    .nil) .nil)
    .nil))))))))))))))
    (.cons (.ret (.bl true))
    .nil))⟩
end DL

set_option Elab.async false
set_option linter.all false
set_option maxRecDepth 100000
set_option maxHeartbeats 4000000
namespace DL
open PySem PySem.Spec PyProof.Rows L2
/-! the promises of defs that several laws have -/
theorem imp_lowest {Γ : Gam} (as : List Sl) (P : D → Prop) (PE : Str → Prop) (h : φ_lowest as P PE) : spW Γ d_lowest as P PE := by
  obtain ⟨a, b, n, rfl, hb, bd, hn, hP⟩ := h
  refine ⟨rfl, ?_⟩
  have g0 : 0 < a.natAbs.gcd b.natAbs := Nat.gcd_pos_of_pos_right _ (by omega)
  have gl : a.natAbs.gcd b.natAbs ≤ b.natAbs := Nat.le_of_dvd (by omega) (Nat.gcd_dvd_right _ _)
  have e := lowest_eq (a := a) hb
  simp only [d_lowest, true_and, wpSs, wpS, wpE, wpX, wpO, wpC, wpI, ent, kt0, bindT, bindTs, tgsLen, wipeR, constD, owL, List.map_cons, List.map_nil, List.length_cons, List.length_nil, List.replicate, List.cons_append, List.nil_append, Nat.reduceSub, Nat.reduceAdd, List.getElem?_cons_zero, List.getElem?_cons_succ, List.getElem?_nil, List.set_cons_zero, List.set_cons_succ, opF, cmpF, Bi.fd, Option.map_some, if_true, if_false, Bool.true_eq_false, Bool.false_eq_true, reduceIte, Bool.not_true, Bool.not_false, w_some, w_none, w_fz0, w_fz1, w_t0, w_t1, w_t2, w_t3, w_t4, w_add, w_addL, w_addT, w_sub, w_subB, w_mul, w_mulL, w_mulT, w_mod, w_div, w_lt, w_le, w_gt, w_ge, w_is, w_isnt, w_n0, w_n1, w_n2, w_n3, w_n4, w_neg, w_atL, w_atT, w_lenL, w_lenT, w_tupL, w_tupT, w_lisL, w_lisT, w_abs, w_int, w_intB, w_gcd, w_min, w_max, w_seqL, w_seqT, w_augA, w_augS, w_augM, w_intQ, w_lstQ, w_rng1, w_rng2, w_zipL, w_zipT, w_zipM, w_zipN, w_enum, w_enumT]
  have bg : Bd n ((a.natAbs.gcd b.natAbs : Nat) : Int) := bd.le (by simpa using gl)
  have ok1 : dDivOk ((a.natAbs.gcd b.natAbs : Nat) : Int) := bg.divOk hn (by omega)
  have ok2 : dDivOk (-((a.natAbs.gcd b.natAbs : Nat) : Int)) := bg.neg.divOk hn (by omega)
  by_cases hlt : b < 0
  · rw [if_pos hlt] at e
    rw [decide_eq_true hlt]
    simp only [true_and, wpSs, wpS, wpE, wpX, wpO, wpC, wpI, ent, kt0, bindT, bindTs, tgsLen, wipeR, constD, owL, List.map_cons, List.map_nil, List.length_cons, List.length_nil, List.replicate, List.cons_append, List.nil_append, Nat.reduceSub, Nat.reduceAdd, List.getElem?_cons_zero, List.getElem?_cons_succ, List.getElem?_nil, List.set_cons_zero, List.set_cons_succ, opF, cmpF, Bi.fd, Option.map_some, if_true, if_false, Bool.true_eq_false, Bool.false_eq_true, reduceIte, Bool.not_true, Bool.not_false, w_some, w_none, w_fz0, w_fz1, w_t0, w_t1, w_t2, w_t3, w_t4, w_add, w_addL, w_addT, w_sub, w_subB, w_mul, w_mulL, w_mulT, w_mod, w_div, w_lt, w_le, w_gt, w_ge, w_is, w_isnt, w_n0, w_n1, w_n2, w_n3, w_n4, w_neg, w_atL, w_atT, w_lenL, w_lenT, w_tupL, w_tupT, w_lisL, w_lisT, w_abs, w_int, w_intB, w_gcd, w_min, w_max, w_seqL, w_seqT, w_augA, w_augS, w_augM, w_intQ, w_lstQ, w_rng1, w_rng2, w_zipL, w_zipT, w_zipM, w_zipN, w_enum, w_enumT]
    exact ⟨ok2, ok2, by rw [e]; exact hP⟩
  · rw [if_neg hlt] at e
    rw [decide_eq_false hlt]
    simp only [true_and, wpSs, wpS, wpE, wpX, wpO, wpC, wpI, ent, kt0, bindT, bindTs, tgsLen, wipeR, constD, owL, List.map_cons, List.map_nil, List.length_cons, List.length_nil, List.replicate, List.cons_append, List.nil_append, Nat.reduceSub, Nat.reduceAdd, List.getElem?_cons_zero, List.getElem?_cons_succ, List.getElem?_nil, List.set_cons_zero, List.set_cons_succ, opF, cmpF, Bi.fd, Option.map_some, if_true, if_false, Bool.true_eq_false, Bool.false_eq_true, reduceIte, Bool.not_true, Bool.not_false, w_some, w_none, w_fz0, w_fz1, w_t0, w_t1, w_t2, w_t3, w_t4, w_add, w_addL, w_addT, w_sub, w_subB, w_mul, w_mulL, w_mulT, w_mod, w_div, w_lt, w_le, w_gt, w_ge, w_is, w_isnt, w_n0, w_n1, w_n2, w_n3, w_n4, w_neg, w_atL, w_atT, w_lenL, w_lenT, w_tupL, w_tupT, w_lisL, w_lisT, w_abs, w_int, w_intB, w_gcd, w_min, w_max, w_seqL, w_seqT, w_augA, w_augS, w_augM, w_intQ, w_lstQ, w_rng1, w_rng2, w_zipL, w_zipT, w_zipM, w_zipN, w_enum, w_enumT]
    exact ⟨ok1, ok1, by rw [e]; exact hP⟩

theorem imp_plus {Γ : Gam} (e : Γ.Φ "lowest" = φ_lowest) (as : List Sl) (P : D → Prop) (PE : Str → Prop) (h : φ_plus as P PE) : spW Γ d_plus as P PE := by
  obtain ⟨p, q, m, n, rfl, hp, hq, hl, hP⟩ := h
  refine ⟨rfl, ?_⟩
  simp only [d_plus, qD, true_and, wpSs, wpS, wpE, wpX, wpO, wpC, wpI, ent, kt0, bindT, bindTs, tgsLen, wipeR, constD, owL, List.map_cons, List.map_nil, List.length_cons, List.length_nil, List.replicate, List.cons_append, List.nil_append, Nat.reduceSub, Nat.reduceAdd, List.getElem?_cons_zero, List.getElem?_cons_succ, List.getElem?_nil, List.set_cons_zero, List.set_cons_succ, opF, cmpF, Bi.fd, Option.map_some, if_true, if_false, Bool.true_eq_false, Bool.false_eq_true, reduceIte, Bool.not_true, Bool.not_false, w_some, w_none, w_fz0, w_fz1, w_t0, w_t1, w_t2, w_t3, w_t4, w_add, w_addL, w_addT, w_sub, w_subB, w_mul, w_mulL, w_mulT, w_mod, w_div, w_lt, w_le, w_gt, w_ge, w_is, w_isnt, w_n0, w_n1, w_n2, w_n3, w_n4, w_neg, w_atL, w_atT, w_lenL, w_lenT, w_tupL, w_tupT, w_lisL, w_lisT, w_abs, w_int, w_intB, w_gcd, w_min, w_max, w_seqL, w_seqT, w_augA, w_augS, w_augM, w_intQ, w_lstQ, w_rng1, w_rng2, w_zipL, w_zipT, w_zipM, w_zipN, w_enum, w_enumT, atI0, atI1]
  have k1 := hp.num.mulOk hq.den (by omega)
  have k2 := hq.num.mulOk hp.den (by omega)
  have k3 := hp.den.mulOk hq.den (by omega)
  refine ⟨k1, k2, k3, ?_⟩
  rw [e]
  exact ⟨_, _, _, rfl, mul_ne (den_ne _) (den_ne _), hp.den.mul hq.den, by omega, by rw [← add_eq]; exact hP⟩

theorem imp_times {Γ : Gam} (e : Γ.Φ "lowest" = φ_lowest) (as : List Sl) (P : D → Prop) (PE : Str → Prop) (h : φ_times as P PE) : spW Γ d_times as P PE := by
  obtain ⟨p, q, m, n, rfl, hp, hq, hl, hP⟩ := h
  refine ⟨rfl, ?_⟩
  simp only [d_times, qD, true_and, wpSs, wpS, wpE, wpX, wpO, wpC, wpI, ent, kt0, bindT, bindTs, tgsLen, wipeR, constD, owL, List.map_cons, List.map_nil, List.length_cons, List.length_nil, List.replicate, List.cons_append, List.nil_append, Nat.reduceSub, Nat.reduceAdd, List.getElem?_cons_zero, List.getElem?_cons_succ, List.getElem?_nil, List.set_cons_zero, List.set_cons_succ, opF, cmpF, Bi.fd, Option.map_some, if_true, if_false, Bool.true_eq_false, Bool.false_eq_true, reduceIte, Bool.not_true, Bool.not_false, w_some, w_none, w_fz0, w_fz1, w_t0, w_t1, w_t2, w_t3, w_t4, w_add, w_addL, w_addT, w_sub, w_subB, w_mul, w_mulL, w_mulT, w_mod, w_div, w_lt, w_le, w_gt, w_ge, w_is, w_isnt, w_n0, w_n1, w_n2, w_n3, w_n4, w_neg, w_atL, w_atT, w_lenL, w_lenT, w_tupL, w_tupT, w_lisL, w_lisT, w_abs, w_int, w_intB, w_gcd, w_min, w_max, w_seqL, w_seqT, w_augA, w_augS, w_augM, w_intQ, w_lstQ, w_rng1, w_rng2, w_zipL, w_zipT, w_zipM, w_zipN, w_enum, w_enumT, atI0, atI1]
  have k1 := hp.num.mulOk hq.num (by omega)
  have k3 := hp.den.mulOk hq.den (by omega)
  refine ⟨k1, k3, ?_⟩
  rw [e]
  exact ⟨_, _, _, rfl, mul_ne (den_ne _) (den_ne _), hp.den.mul hq.den, by omega, by rw [← mul_eq]; exact hP⟩

theorem imp_over {Γ : Gam} (e : Γ.Φ "lowest" = φ_lowest) (as : List Sl) (P : D → Prop) (PE : Str → Prop) (h : φ_over as P PE) : spW Γ d_over as P PE := by
  obtain ⟨p, q, m, n, rfl, hp, hq, hl, hz, hP⟩ := h
  refine ⟨rfl, ?_⟩
  simp only [d_over, true_and, wpSs, wpS, wpE, wpX, wpO, wpC, wpI, ent, kt0, bindT, bindTs, tgsLen, wipeR, constD, owL, List.map_cons, List.map_nil, List.length_cons, List.length_nil, List.replicate, List.cons_append, List.nil_append, Nat.reduceSub, Nat.reduceAdd, List.getElem?_cons_zero, List.getElem?_cons_succ, List.getElem?_nil, List.set_cons_zero, List.set_cons_succ, opF, cmpF, Bi.fd, Option.map_some, if_true, if_false, Bool.true_eq_false, Bool.false_eq_true, reduceIte, Bool.not_true, Bool.not_false, w_some, w_none, w_fz0, w_fz1, w_t0, w_t1, w_t2, w_t3, w_t4, w_add, w_addL, w_addT, w_sub, w_subB, w_mul, w_mulL, w_mulT, w_mod, w_div, w_lt, w_le, w_gt, w_ge, w_is, w_isnt, w_n0, w_n1, w_n2, w_n3, w_n4, w_neg, w_atL, w_atT, w_lenL, w_lenT, w_tupL, w_tupT, w_lisL, w_lisT, w_abs, w_int, w_intB, w_gcd, w_min, w_max, w_seqL, w_seqT, w_augA, w_augS, w_augM, w_intQ, w_lstQ, w_rng1, w_rng2, w_zipL, w_zipT, w_zipM, w_zipN, w_enum, w_enumT, qD0, qD1, e]
  have hn : q.num ≠ 0 := fun h => hz (Rat.num_eq_zero.mp h)
  refine dEqI ?_
  rw [decide_eq_false hn]
  simp only [true_and, wpSs, wpS, wpE, wpX, wpO, wpC, wpI, ent, kt0, bindT, bindTs, tgsLen, wipeR, constD, owL, List.map_cons, List.map_nil, List.length_cons, List.length_nil, List.replicate, List.cons_append, List.nil_append, Nat.reduceSub, Nat.reduceAdd, List.getElem?_cons_zero, List.getElem?_cons_succ, List.getElem?_nil, List.set_cons_zero, List.set_cons_succ, opF, cmpF, Bi.fd, Option.map_some, if_true, if_false, Bool.true_eq_false, Bool.false_eq_true, reduceIte, Bool.not_true, Bool.not_false, w_some, w_none, w_fz0, w_fz1, w_t0, w_t1, w_t2, w_t3, w_t4, w_add, w_addL, w_addT, w_sub, w_subB, w_mul, w_mulL, w_mulT, w_mod, w_div, w_lt, w_le, w_gt, w_ge, w_is, w_isnt, w_n0, w_n1, w_n2, w_n3, w_n4, w_neg, w_atL, w_atT, w_lenL, w_lenT, w_tupL, w_tupT, w_lisL, w_lisT, w_abs, w_int, w_intB, w_gcd, w_min, w_max, w_seqL, w_seqT, w_augA, w_augS, w_augM, w_intQ, w_lstQ, w_rng1, w_rng2, w_zipL, w_zipT, w_zipM, w_zipN, w_enum, w_enumT, qD0, qD1]
  refine ⟨hp.num.mulOk hq.den (by omega), hp.den.mulOk hq.num (by omega), _, _, m + n, rfl, ?_, hp.den.mul hq.num, by omega, ?_⟩
  · exact mul_ne (den_ne p) hn
  · rw [← div_eq']
    exact hP

theorem imp_sign_of {Γ : Gam} (as : List Sl) (P : D → Prop) (PE : Str → Prop) (h : φ_sign_of as P PE) : spW Γ d_sign_of as P PE := by
  obtain ⟨i, rfl, hP⟩ := h
  refine ⟨rfl, ?_⟩
  simp only [d_sign_of, true_and, wpSs, wpS, wpE, wpX, wpO, wpC, wpI, ent, kt0, bindT, bindTs, tgsLen, wipeR, constD, owL, List.map_cons, List.map_nil, List.length_cons, List.length_nil, List.replicate, List.cons_append, List.nil_append, Nat.reduceSub, Nat.reduceAdd, List.getElem?_cons_zero, List.getElem?_cons_succ, List.getElem?_nil, List.set_cons_zero, List.set_cons_succ, opF, cmpF, Bi.fd, Option.map_some, if_true, if_false, Bool.true_eq_false, Bool.false_eq_true, reduceIte, Bool.not_true, Bool.not_false, w_some, w_none, w_fz0, w_fz1, w_t0, w_t1, w_t2, w_t3, w_t4, w_add, w_addL, w_addT, w_sub, w_subB, w_mul, w_mulL, w_mulT, w_mod, w_div, w_lt, w_le, w_gt, w_ge, w_is, w_isnt, w_n0, w_n1, w_n2, w_n3, w_n4, w_neg, w_atL, w_atT, w_lenL, w_lenT, w_tupL, w_tupT, w_lisL, w_lisT, w_abs, w_int, w_intB, w_gcd, w_min, w_max, w_seqL, w_seqT, w_augA, w_augS, w_augM, w_intQ, w_lstQ, w_rng1, w_rng2, w_zipL, w_zipT, w_zipM, w_zipN, w_enum, w_enumT]
  have e : PyProof.Rows.b2i (decide (0 < i)) - PyProof.Rows.b2i (decide (i < 0)) = sgn i := by
    unfold sgn PyProof.Rows.b2i
    by_cases h1 : 0 < i
    · simp [h1, show ¬ i < 0 by omega]
    · by_cases h2 : i < 0
      · simp [h1, h2]
      · simp [h1, h2]
  rw [e]
  exact hP

theorem imp_compare {Γ : Gam} (e : Γ.Φ "sign_of" = φ_sign_of) (as : List Sl) (P : D → Prop) (PE : Str → Prop) (h : φ_compare as P PE) : spW Γ d_compare as P PE := by
  obtain ⟨p, q, m, n, rfl, hp, hq, hl, hP⟩ := h
  refine ⟨rfl, ?_⟩
  simp only [d_compare, qD, true_and, wpSs, wpS, wpE, wpX, wpO, wpC, wpI, ent, kt0, bindT, bindTs, tgsLen, wipeR, constD, owL, List.map_cons, List.map_nil, List.length_cons, List.length_nil, List.replicate, List.cons_append, List.nil_append, Nat.reduceSub, Nat.reduceAdd, List.getElem?_cons_zero, List.getElem?_cons_succ, List.getElem?_nil, List.set_cons_zero, List.set_cons_succ, opF, cmpF, Bi.fd, Option.map_some, if_true, if_false, Bool.true_eq_false, Bool.false_eq_true, reduceIte, Bool.not_true, Bool.not_false, w_some, w_none, w_fz0, w_fz1, w_t0, w_t1, w_t2, w_t3, w_t4, w_add, w_addL, w_addT, w_sub, w_subB, w_mul, w_mulL, w_mulT, w_mod, w_div, w_lt, w_le, w_gt, w_ge, w_is, w_isnt, w_n0, w_n1, w_n2, w_n3, w_n4, w_neg, w_atL, w_atT, w_lenL, w_lenT, w_tupL, w_tupT, w_lisL, w_lisT, w_abs, w_int, w_intB, w_gcd, w_min, w_max, w_seqL, w_seqT, w_augA, w_augS, w_augM, w_intQ, w_lstQ, w_rng1, w_rng2, w_zipL, w_zipT, w_zipM, w_zipN, w_enum, w_enumT, atI0, atI1]
  refine ⟨hp.num.mulOk hq.den (by omega), hq.num.mulOk hp.den (by omega), ?_⟩
  rw [e]
  exact ⟨_, rfl, by rw [sgn_cmp]; exact hP⟩

theorem imp_total_of {Γ : Gam} (e : Γ.Φ "plus" = φ_plus) (e0 : Γ.gl.lookup ("NOTHING" : Str) = some (qD 0)) (as : List Sl) (P : D → Prop) (PE : Str → Prop) (h : φ_total_of as P PE) : spW Γ d_total_of as P PE := by
  obtain ⟨b, l, m, rfl, hs, hm, hP⟩ := h
  refine ⟨rfl, ?_⟩
  simp only [d_total_of, true_and, wpSs, wpS, wpE, wpX, wpO, wpC, wpI, ent, kt0, bindT, bindTs, tgsLen, wipeR, constD, owL, List.map_cons, List.map_nil, List.length_cons, List.length_nil, List.replicate, List.cons_append, List.nil_append, Nat.reduceSub, Nat.reduceAdd, List.getElem?_cons_zero, List.getElem?_cons_succ, List.getElem?_nil, List.set_cons_zero, List.set_cons_succ, opF, cmpF, Bi.fd, Option.map_some, if_true, if_false, Bool.true_eq_false, Bool.false_eq_true, reduceIte, Bool.not_true, Bool.not_false, w_some, w_none, w_fz0, w_fz1, w_t0, w_t1, w_t2, w_t3, w_t4, w_add, w_addL, w_addT, w_sub, w_subB, w_mul, w_mulL, w_mulT, w_mod, w_div, w_lt, w_le, w_gt, w_ge, w_is, w_isnt, w_n0, w_n1, w_n2, w_n3, w_n4, w_neg, w_atL, w_atT, w_lenL, w_lenT, w_tupL, w_tupT, w_lisL, w_lisT, w_abs, w_int, w_intB, w_gcd, w_min, w_max, w_seqL, w_seqT, w_augA, w_augS, w_augM, w_intQ, w_lstQ, w_rng1, w_rng2, w_zipL, w_zipT, w_zipM, w_zipN, w_enum, w_enumT]
  rw [e0]
  simp only [true_and, wpSs, wpS, wpE, wpX, wpO, wpC, wpI, ent, kt0, bindT, bindTs, tgsLen, wipeR, constD, owL, List.map_cons, List.map_nil, List.length_cons, List.length_nil, List.replicate, List.cons_append, List.nil_append, Nat.reduceSub, Nat.reduceAdd, List.getElem?_cons_zero, List.getElem?_cons_succ, List.getElem?_nil, List.set_cons_zero, List.set_cons_succ, opF, cmpF, Bi.fd, Option.map_some, if_true, if_false, Bool.true_eq_false, Bool.false_eq_true, reduceIte, Bool.not_true, Bool.not_false, w_some, w_none, w_fz0, w_fz1, w_t0, w_t1, w_t2, w_t3, w_t4, w_add, w_addL, w_addT, w_sub, w_subB, w_mul, w_mulL, w_mulT, w_mod, w_div, w_lt, w_le, w_gt, w_ge, w_is, w_isnt, w_n0, w_n1, w_n2, w_n3, w_n4, w_neg, w_atL, w_atT, w_lenL, w_lenT, w_tupL, w_tupT, w_lisL, w_lisT, w_abs, w_int, w_intB, w_gcd, w_min, w_max, w_seqL, w_seqT, w_augA, w_augS, w_augM, w_intQ, w_lstQ, w_rng1, w_rng2, w_zipL, w_zipT, w_zipM, w_zipN, w_enum, w_enumT]
  refine seqOf_seqD (forW_inv (I := fun done ρ => ∃ y, ρ = [some (.fz (seqD b (l.map qD))), some (.fz (qD (qsum done))), y]) ⟨none, rfl⟩ (fun done x rest ρ kk el hI hk => ?_) (fun ρ hI => ?_))
  · obtain ⟨y, rfl⟩ := hI
    have h1 := hs.su done (x :: rest) el
    have h2 := hs.it x (by rw [el]; simp)
    simp only [true_and, wpSs, wpS, wpE, wpX, wpO, wpC, wpI, ent, kt0, bindT, bindTs, tgsLen, wipeR, constD, owL, List.map_cons, List.map_nil, List.length_cons, List.length_nil, List.replicate, List.cons_append, List.nil_append, Nat.reduceSub, Nat.reduceAdd, List.getElem?_cons_zero, List.getElem?_cons_succ, List.getElem?_nil, List.set_cons_zero, List.set_cons_succ, opF, cmpF, Bi.fd, Option.map_some, if_true, if_false, Bool.true_eq_false, Bool.false_eq_true, reduceIte, Bool.not_true, Bool.not_false, w_some, w_none, w_fz0, w_fz1, w_t0, w_t1, w_t2, w_t3, w_t4, w_add, w_addL, w_addT, w_sub, w_subB, w_mul, w_mulL, w_mulT, w_mod, w_div, w_lt, w_le, w_gt, w_ge, w_is, w_isnt, w_n0, w_n1, w_n2, w_n3, w_n4, w_neg, w_atL, w_atT, w_lenL, w_lenT, w_tupL, w_tupT, w_lisL, w_lisT, w_abs, w_int, w_intB, w_gcd, w_min, w_max, w_seqL, w_seqT, w_augA, w_augS, w_augM, w_intQ, w_lstQ, w_rng1, w_rng2, w_zipL, w_zipT, w_zipM, w_zipN, w_enum, w_enumT]
    rw [e]
    refine ⟨_, _, _, _, rfl, h1, h2, by omega, hk _ ⟨some (.fz (qD x)), ?_⟩⟩
    rw [qsum_snoc]
  · obtain ⟨y, rfl⟩ := hI
    simp only [true_and, wpSs, wpS, wpE, wpX, wpO, wpC, wpI, ent, kt0, bindT, bindTs, tgsLen, wipeR, constD, owL, List.map_cons, List.map_nil, List.length_cons, List.length_nil, List.replicate, List.cons_append, List.nil_append, Nat.reduceSub, Nat.reduceAdd, List.getElem?_cons_zero, List.getElem?_cons_succ, List.getElem?_nil, List.set_cons_zero, List.set_cons_succ, opF, cmpF, Bi.fd, Option.map_some, if_true, if_false, Bool.true_eq_false, Bool.false_eq_true, reduceIte, Bool.not_true, Bool.not_false, w_some, w_none, w_fz0, w_fz1, w_t0, w_t1, w_t2, w_t3, w_t4, w_add, w_addL, w_addT, w_sub, w_subB, w_mul, w_mulL, w_mulT, w_mod, w_div, w_lt, w_le, w_gt, w_ge, w_is, w_isnt, w_n0, w_n1, w_n2, w_n3, w_n4, w_neg, w_atL, w_atT, w_lenL, w_lenT, w_tupL, w_tupT, w_lisL, w_lisT, w_abs, w_int, w_intB, w_gcd, w_min, w_max, w_seqL, w_seqT, w_augA, w_augS, w_augM, w_intQ, w_lstQ, w_rng1, w_rng2, w_zipL, w_zipT, w_zipM, w_zipN, w_enum, w_enumT]
    exact hP

theorem imp_signs_of {Γ : Gam} (as : List Sl) (P : D → Prop) (PE : Str → Prop) (h : φ_signs_of as P PE) : spW Γ d_signs_of as P PE := by
  obtain ⟨r, c, rfl, hP⟩ := h
  refine ⟨rfl, ?_⟩
  simp only [d_signs_of, chQ, true_and, wpSs, wpS, wpE, wpX, wpO, wpC, wpI, ent, kt0, bindT, bindTs, tgsLen, wipeR, constD, owL, List.map_cons, List.map_nil, List.length_cons, List.length_nil, List.replicate, List.cons_append, List.nil_append, Nat.reduceSub, Nat.reduceAdd, List.getElem?_cons_zero, List.getElem?_cons_succ, List.getElem?_nil, List.set_cons_zero, List.set_cons_succ, opF, cmpF, Bi.fd, Option.map_some, if_true, if_false, Bool.true_eq_false, Bool.false_eq_true, reduceIte, Bool.not_true, Bool.not_false, w_some, w_none, w_fz0, w_fz1, w_t0, w_t1, w_t2, w_t3, w_t4, w_add, w_addL, w_addT, w_sub, w_subB, w_mul, w_mulL, w_mulT, w_mod, w_div, w_lt, w_le, w_gt, w_ge, w_is, w_isnt, w_n0, w_n1, w_n2, w_n3, w_n4, w_neg, w_atL, w_atT, w_lenL, w_lenT, w_tupL, w_tupT, w_lisL, w_lisT, w_abs, w_int, w_intB, w_gcd, w_min, w_max, w_seqL, w_seqT, w_augA, w_augS, w_augM, w_intQ, w_lstQ, w_rng1, w_rng2, w_zipL, w_zipT, w_zipM, w_zipN, w_enum, w_enumT]
  rw [atI0]
  simp only [rowQ, true_and, wpSs, wpS, wpE, wpX, wpO, wpC, wpI, ent, kt0, bindT, bindTs, tgsLen, wipeR, constD, owL, List.map_cons, List.map_nil, List.length_cons, List.length_nil, List.replicate, List.cons_append, List.nil_append, Nat.reduceSub, Nat.reduceAdd, List.getElem?_cons_zero, List.getElem?_cons_succ, List.getElem?_nil, List.set_cons_zero, List.set_cons_succ, opF, cmpF, Bi.fd, Option.map_some, if_true, if_false, Bool.true_eq_false, Bool.false_eq_true, reduceIte, Bool.not_true, Bool.not_false, w_some, w_none, w_fz0, w_fz1, w_t0, w_t1, w_t2, w_t3, w_t4, w_add, w_addL, w_addT, w_sub, w_subB, w_mul, w_mulL, w_mulT, w_mod, w_div, w_lt, w_le, w_gt, w_ge, w_is, w_isnt, w_n0, w_n1, w_n2, w_n3, w_n4, w_neg, w_atL, w_atT, w_lenL, w_lenT, w_tupL, w_tupT, w_lisL, w_lisT, w_abs, w_int, w_intB, w_gcd, w_min, w_max, w_seqL, w_seqT, w_augA, w_augS, w_augM, w_intQ, w_lstQ, w_rng1, w_rng2, w_zipL, w_zipT, w_zipM, w_zipN, w_enum, w_enumT, List.length_map]
  exact hP

theorem imp_column_of {Γ : Gam} (e1 : Γ.Φ "times" = φ_times) (as : List Sl) (P : D → Prop) (PE : Str → Prop) (h : φ_column_of as P PE) : spW Γ d_column_of as P PE := by
  obtain ⟨b, w, c, y, s, t, rfl, ok, hP⟩ := h
  refine ⟨rfl, ?_⟩
  simp only [d_column_of, chQ, true_and, wpSs, wpS, wpE, wpX, wpO, wpC, wpI, ent, kt0, bindT, bindTs, tgsLen, wipeR, constD, owL, List.map_cons, List.map_nil, List.length_cons, List.length_nil, List.replicate, List.cons_append, List.nil_append, Nat.reduceSub, Nat.reduceAdd, List.getElem?_cons_zero, List.getElem?_cons_succ, List.getElem?_nil, List.set_cons_zero, List.set_cons_succ, opF, cmpF, Bi.fd, Option.map_some, if_true, if_false, Bool.true_eq_false, Bool.false_eq_true, reduceIte, Bool.not_true, Bool.not_false, w_some, w_none, w_fz0, w_fz1, w_t0, w_t1, w_t2, w_t3, w_t4, w_add, w_addL, w_addT, w_sub, w_subB, w_mul, w_mulL, w_mulT, w_mod, w_div, w_lt, w_le, w_gt, w_ge, w_is, w_isnt, w_n0, w_n1, w_n2, w_n3, w_n4, w_neg, w_atL, w_atT, w_lenL, w_lenT, w_tupL, w_tupT, w_lisL, w_lisT, w_abs, w_int, w_intB, w_gcd, w_min, w_max, w_seqL, w_seqT, w_augA, w_augS, w_augM, w_intQ, w_lstQ, w_rng1, w_rng2, w_zipL, w_zipT, w_zipM, w_zipN, w_enum, w_enumT, e1]
  refine zipW_seq ?_
  rw [zipD_map2]
  have hl := ok.l
  have sm := ok.sm
  refine ⟨by rw [List.length_map, List.length_zip]; exact small (by omega), ?_⟩
  refine foldW_map (fun p => qD (p.1 * p.2.getD y 0)) (fun p acc kk hp hk => ?_) ?_
  · have hy := ok.hy _ (mem_zip hp).2
    simp only [true_and, wpSs, wpS, wpE, wpX, wpO, wpC, wpI, ent, kt0, bindT, bindTs, tgsLen, wipeR, constD, owL, List.map_cons, List.map_nil, List.length_cons, List.length_nil, List.replicate, List.cons_append, List.nil_append, Nat.reduceSub, Nat.reduceAdd, List.getElem?_cons_zero, List.getElem?_cons_succ, List.getElem?_nil, List.set_cons_zero, List.set_cons_succ, opF, cmpF, Bi.fd, Option.map_some, if_true, if_false, Bool.true_eq_false, Bool.false_eq_true, reduceIte, Bool.not_true, Bool.not_false, w_some, w_none, w_fz0, w_fz1, w_t0, w_t1, w_t2, w_t3, w_t4, w_add, w_addL, w_addT, w_sub, w_subB, w_mul, w_mulL, w_mulT, w_mod, w_div, w_lt, w_le, w_gt, w_ge, w_is, w_isnt, w_n0, w_n1, w_n2, w_n3, w_n4, w_neg, w_atL, w_atT, w_lenL, w_lenT, w_tupL, w_tupT, w_lisL, w_lisT, w_abs, w_int, w_intB, w_gcd, w_min, w_max, w_seqL, w_seqT, w_augA, w_augS, w_augM, w_intQ, w_lstQ, w_rng1, w_rng2, w_zipL, w_zipT, w_zipM, w_zipN, w_enum, w_enumT, rowQ]
    rw [at_map (getD_some 0 hy)]
    simp only [true_and, wpSs, wpS, wpE, wpX, wpO, wpC, wpI, ent, kt0, bindT, bindTs, tgsLen, wipeR, constD, owL, List.map_cons, List.map_nil, List.length_cons, List.length_nil, List.replicate, List.cons_append, List.nil_append, Nat.reduceSub, Nat.reduceAdd, List.getElem?_cons_zero, List.getElem?_cons_succ, List.getElem?_nil, List.set_cons_zero, List.set_cons_succ, opF, cmpF, Bi.fd, Option.map_some, if_true, if_false, Bool.true_eq_false, Bool.false_eq_true, reduceIte, Bool.not_true, Bool.not_false, w_some, w_none, w_fz0, w_fz1, w_t0, w_t1, w_t2, w_t3, w_t4, w_add, w_addL, w_addT, w_sub, w_subB, w_mul, w_mulL, w_mulT, w_mod, w_div, w_lt, w_le, w_gt, w_ge, w_is, w_isnt, w_n0, w_n1, w_n2, w_n3, w_n4, w_neg, w_atL, w_atT, w_lenL, w_lenT, w_tupL, w_tupT, w_lisL, w_lisT, w_abs, w_int, w_intB, w_gcd, w_min, w_max, w_seqL, w_seqT, w_augA, w_augS, w_augM, w_intQ, w_lstQ, w_rng1, w_rng2, w_zipL, w_zipT, w_zipM, w_zipN, w_enum, w_enumT]
    exact ⟨_, _, s, t, rfl, ok.hw _ (mem_zip hp).1, ok.hc _ (mem_zip hp).2 _ (getD_mem 0 hy), by omega, hk⟩
  · unfold colQ at hP
    rw [zipWith_zip, List.map_map] at hP
    exact hP

theorem imp__law_lowest {Γ : Gam} (as : List Sl) (P : D → Prop) (PE : Str → Prop) (h : φ__law_lowest as P PE) : spW Γ d__law_lowest as P PE := by
  obtain ⟨a, b, m, n, rfl, hb, ba, bb, hn, hm, hP⟩ := h
  refine ⟨rfl, ?_⟩
  simp only [d__law_lowest, true_and, wpSs, wpS, wpE, wpX, wpO, wpC, wpI, ent, kt0, bindT, bindTs, tgsLen, wipeR, constD, owL, List.map_cons, List.map_nil, List.length_cons, List.length_nil, List.replicate, List.cons_append, List.nil_append, Nat.reduceSub, Nat.reduceAdd, List.getElem?_cons_zero, List.getElem?_cons_succ, List.getElem?_nil, List.set_cons_zero, List.set_cons_succ, opF, cmpF, Bi.fd, Option.map_some, if_true, if_false, Bool.true_eq_false, Bool.false_eq_true, reduceIte, Bool.not_true, Bool.not_false, w_some, w_none, w_fz0, w_fz1, w_t0, w_t1, w_t2, w_t3, w_t4, w_add, w_addL, w_addT, w_sub, w_subB, w_mul, w_mulL, w_mulT, w_mod, w_div, w_lt, w_le, w_gt, w_ge, w_is, w_isnt, w_n0, w_n1, w_n2, w_n3, w_n4, w_neg, w_atL, w_atT, w_lenL, w_lenT, w_tupL, w_tupT, w_lisL, w_lisT, w_abs, w_int, w_intB, w_gcd, w_min, w_max, w_seqL, w_seqT, w_augA, w_augS, w_augM, w_intQ, w_lstQ, w_rng1, w_rng2, w_zipL, w_zipT, w_zipM, w_zipN, w_enum, w_enumT]
  refine ⟨fun k ρ => ∃ c d : Int, ρ = [some (.fz (.int a)), some (.fz (.int b)), some (.fz (.int c)), some (.fz (.int d))] ∧ k = d.toNat ∧ 0 ≤ c ∧ 0 ≤ d ∧ c.natAbs.gcd d.natAbs = a.natAbs.gcd b.natAbs ∧ Bd (max m n) c ∧ Bd n d ∧ (d = 0 → 0 < c), ⟨b.toNat, a.natAbs, b, ?_, rfl, by omega, by omega, by rw [Int.natAbs_natCast], ?_, bb, by omega⟩, ?_⟩
  · have e : (if a < 0 then -a else a) = (a.natAbs : Int) := by split <;> omega
    first
      | rw [e]
      | rfl
  · exact (ba.le (j := (a.natAbs : Int)) (by simp)).mono (Nat.le_max_left _ _)
  · rintro k ρ ⟨c, d, rfl, rfl, c0, d0, hg, bc, bd, hz⟩
    simp only [true_and, wpSs, wpS, wpE, wpX, wpO, wpC, wpI, ent, kt0, bindT, bindTs, tgsLen, wipeR, constD, owL, List.map_cons, List.map_nil, List.length_cons, List.length_nil, List.replicate, List.cons_append, List.nil_append, Nat.reduceSub, Nat.reduceAdd, List.getElem?_cons_zero, List.getElem?_cons_succ, List.getElem?_nil, List.set_cons_zero, List.set_cons_succ, opF, cmpF, Bi.fd, Option.map_some, if_true, if_false, Bool.true_eq_false, Bool.false_eq_true, reduceIte, Bool.not_true, Bool.not_false, w_some, w_none, w_fz0, w_fz1, w_t0, w_t1, w_t2, w_t3, w_t4, w_add, w_addL, w_addT, w_sub, w_subB, w_mul, w_mulL, w_mulT, w_mod, w_div, w_lt, w_le, w_gt, w_ge, w_is, w_isnt, w_n0, w_n1, w_n2, w_n3, w_n4, w_neg, w_atL, w_atT, w_lenL, w_lenT, w_tupL, w_tupT, w_lisL, w_lisT, w_abs, w_int, w_intB, w_gcd, w_min, w_max, w_seqL, w_seqT, w_augA, w_augS, w_augM, w_intQ, w_lstQ, w_rng1, w_rng2, w_zipL, w_zipT, w_zipM, w_zipN, w_enum, w_enumT]
    by_cases hd : d > 0
    · rw [decide_eq_true hd]
      simp only [true_and, wpSs, wpS, wpE, wpX, wpO, wpC, wpI, ent, kt0, bindT, bindTs, tgsLen, wipeR, constD, owL, List.map_cons, List.map_nil, List.length_cons, List.length_nil, List.replicate, List.cons_append, List.nil_append, Nat.reduceSub, Nat.reduceAdd, List.getElem?_cons_zero, List.getElem?_cons_succ, List.getElem?_nil, List.set_cons_zero, List.set_cons_succ, opF, cmpF, Bi.fd, Option.map_some, if_true, if_false, Bool.true_eq_false, Bool.false_eq_true, reduceIte, Bool.not_true, Bool.not_false, w_some, w_none, w_fz0, w_fz1, w_t0, w_t1, w_t2, w_t3, w_t4, w_add, w_addL, w_addT, w_sub, w_subB, w_mul, w_mulL, w_mulT, w_mod, w_div, w_lt, w_le, w_gt, w_ge, w_is, w_isnt, w_n0, w_n1, w_n2, w_n3, w_n4, w_neg, w_atL, w_atT, w_lenL, w_lenT, w_tupL, w_tupT, w_lisL, w_lisT, w_abs, w_int, w_intB, w_gcd, w_min, w_max, w_seqL, w_seqT, w_augA, w_augS, w_augM, w_intQ, w_lstQ, w_rng1, w_rng2, w_zipL, w_zipT, w_zipM, w_zipN, w_enum, w_enumT]
      have bq : Bd (max m n) (c.fdiv d) := by
        rw [Int.fdiv_eq_ediv_of_nonneg _ (by omega)]
        exact bc.le (Int.natAbs_ediv_le_natAbs _ _)
      have em : c - d * (c.fdiv d) = c % d := by
        rw [Int.fdiv_eq_ediv_of_nonneg _ (by omega)]
        have := Int.emod_def c d
        omega
      have r0 := Int.emod_nonneg c (show d ≠ 0 by omega)
      have r1 := Int.emod_lt_of_pos c hd
      refine ⟨bd.divOk hn (by omega), bd.mulOk bq (by omega), (c % d).toNat, by omega, d, c % d, by rw [em], rfl, by omega, r0, ?_, bd.mono (Nat.le_max_right _ _), bd.le (by omega), fun _ => hd⟩
      rw [← hg, Int.natAbs_emod_of_nonneg c0, Nat.gcd_comm d.natAbs, ← Nat.gcd_rec, Nat.gcd_comm]
    · rw [decide_eq_false hd]
      have ed : d = 0 := by omega
      subst ed
      have ec : c = ((a.natAbs.gcd b.natAbs : Nat) : Int) := by
        rw [← hg, Int.natAbs_zero, Nat.gcd_zero_right]
        omega
      have e := lowest_eq (a := a) (b := b) (by omega)
      rw [if_neg (by omega)] at e
      have gl : a.natAbs.gcd b.natAbs ≤ b.natAbs := Nat.le_of_dvd (by omega) (Nat.gcd_dvd_right _ _)
      have ok : dDivOk c := by
        have := hz rfl
        rw [ec] at this ⊢
        exact (bb.le (by simpa using gl)).divOk hn (by omega)
      simp only [true_and, wpSs, wpS, wpE, wpX, wpO, wpC, wpI, ent, kt0, bindT, bindTs, tgsLen, wipeR, constD, owL, List.map_cons, List.map_nil, List.length_cons, List.length_nil, List.replicate, List.cons_append, List.nil_append, Nat.reduceSub, Nat.reduceAdd, List.getElem?_cons_zero, List.getElem?_cons_succ, List.getElem?_nil, List.set_cons_zero, List.set_cons_succ, opF, cmpF, Bi.fd, Option.map_some, if_true, if_false, Bool.true_eq_false, Bool.false_eq_true, reduceIte, Bool.not_true, Bool.not_false, w_some, w_none, w_fz0, w_fz1, w_t0, w_t1, w_t2, w_t3, w_t4, w_add, w_addL, w_addT, w_sub, w_subB, w_mul, w_mulL, w_mulT, w_mod, w_div, w_lt, w_le, w_gt, w_ge, w_is, w_isnt, w_n0, w_n1, w_n2, w_n3, w_n4, w_neg, w_atL, w_atT, w_lenL, w_lenT, w_tupL, w_tupT, w_lisL, w_lisT, w_abs, w_int, w_intB, w_gcd, w_min, w_max, w_seqL, w_seqT, w_augA, w_augS, w_augM, w_intQ, w_lstQ, w_rng1, w_rng2, w_zipL, w_zipT, w_zipM, w_zipN, w_enum, w_enumT]
      refine ⟨ok, ok, ?_⟩
      rw [ec, e]
      exact hP

theorem imp__law_plus {Γ : Gam} (e : Γ.Φ "_law_lowest" = φ__law_lowest) (as : List Sl) (P : D → Prop) (PE : Str → Prop) (h : φ__law_plus as P PE) : spW Γ d__law_plus as P PE := by
  obtain ⟨p, q, m, n, rfl, hp, hq, hl, hP⟩ := h
  refine ⟨rfl, ?_⟩
  simp only [d__law_plus, qD, true_and, wpSs, wpS, wpE, wpX, wpO, wpC, wpI, ent, kt0, bindT, bindTs, tgsLen, wipeR, constD, owL, List.map_cons, List.map_nil, List.length_cons, List.length_nil, List.replicate, List.cons_append, List.nil_append, Nat.reduceSub, Nat.reduceAdd, List.getElem?_cons_zero, List.getElem?_cons_succ, List.getElem?_nil, List.set_cons_zero, List.set_cons_succ, opF, cmpF, Bi.fd, Option.map_some, if_true, if_false, Bool.true_eq_false, Bool.false_eq_true, reduceIte, Bool.not_true, Bool.not_false, w_some, w_none, w_fz0, w_fz1, w_t0, w_t1, w_t2, w_t3, w_t4, w_add, w_addL, w_addT, w_sub, w_subB, w_mul, w_mulL, w_mulT, w_mod, w_div, w_lt, w_le, w_gt, w_ge, w_is, w_isnt, w_n0, w_n1, w_n2, w_n3, w_n4, w_neg, w_atL, w_atT, w_lenL, w_lenT, w_tupL, w_tupT, w_lisL, w_lisT, w_abs, w_int, w_intB, w_gcd, w_min, w_max, w_seqL, w_seqT, w_augA, w_augS, w_augM, w_intQ, w_lstQ, w_rng1, w_rng2, w_zipL, w_zipT, w_zipM, w_zipN, w_enum, w_enumT, atI0, atI1]
  refine ⟨hp.num.mulOk hq.den (by omega), hq.num.mulOk hp.den (by omega), hp.den.mulOk hq.den (by omega), ?_⟩
  rw [e]
  exact ⟨_, _, m + n + 1, m + n, rfl, Int.mul_pos (den_pos _) (den_pos _), (hp.num.mul hq.den).add (hq.num.mul hp.den) _ (by omega) (by omega), hp.den.mul hq.den, by omega, by omega, by rw [← add_eq]; exact hP⟩

theorem imp__law_times {Γ : Gam} (e : Γ.Φ "_law_lowest" = φ__law_lowest) (as : List Sl) (P : D → Prop) (PE : Str → Prop) (h : φ__law_times as P PE) : spW Γ d__law_times as P PE := by
  obtain ⟨p, q, m, n, rfl, hp, hq, hl, hP⟩ := h
  refine ⟨rfl, ?_⟩
  simp only [d__law_times, qD, true_and, wpSs, wpS, wpE, wpX, wpO, wpC, wpI, ent, kt0, bindT, bindTs, tgsLen, wipeR, constD, owL, List.map_cons, List.map_nil, List.length_cons, List.length_nil, List.replicate, List.cons_append, List.nil_append, Nat.reduceSub, Nat.reduceAdd, List.getElem?_cons_zero, List.getElem?_cons_succ, List.getElem?_nil, List.set_cons_zero, List.set_cons_succ, opF, cmpF, Bi.fd, Option.map_some, if_true, if_false, Bool.true_eq_false, Bool.false_eq_true, reduceIte, Bool.not_true, Bool.not_false, w_some, w_none, w_fz0, w_fz1, w_t0, w_t1, w_t2, w_t3, w_t4, w_add, w_addL, w_addT, w_sub, w_subB, w_mul, w_mulL, w_mulT, w_mod, w_div, w_lt, w_le, w_gt, w_ge, w_is, w_isnt, w_n0, w_n1, w_n2, w_n3, w_n4, w_neg, w_atL, w_atT, w_lenL, w_lenT, w_tupL, w_tupT, w_lisL, w_lisT, w_abs, w_int, w_intB, w_gcd, w_min, w_max, w_seqL, w_seqT, w_augA, w_augS, w_augM, w_intQ, w_lstQ, w_rng1, w_rng2, w_zipL, w_zipT, w_zipM, w_zipN, w_enum, w_enumT, atI0, atI1]
  refine ⟨hp.num.mulOk hq.num (by omega), hp.den.mulOk hq.den (by omega), ?_⟩
  rw [e]
  exact ⟨_, _, m + n, m + n, rfl, Int.mul_pos (den_pos _) (den_pos _), hp.num.mul hq.num, hp.den.mul hq.den, by omega, by omega, by rw [← mul_eq]; exact hP⟩

theorem imp__law_less {Γ : Gam} (as : List Sl) (P : D → Prop) (PE : Str → Prop) (h : φ__law_less as P PE) : spW Γ d__law_less as P PE := by
  obtain ⟨a, b, c, d, m, n, rfl, ha, hb, hc, hd, hl, hP⟩ := h
  refine ⟨rfl, ?_⟩
  simp only [d__law_less, qD, true_and, wpSs, wpS, wpE, wpX, wpO, wpC, wpI, ent, kt0, bindT, bindTs, tgsLen, wipeR, constD, owL, List.map_cons, List.map_nil, List.length_cons, List.length_nil, List.replicate, List.cons_append, List.nil_append, Nat.reduceSub, Nat.reduceAdd, List.getElem?_cons_zero, List.getElem?_cons_succ, List.getElem?_nil, List.set_cons_zero, List.set_cons_succ, opF, cmpF, Bi.fd, Option.map_some, if_true, if_false, Bool.true_eq_false, Bool.false_eq_true, reduceIte, Bool.not_true, Bool.not_false, w_some, w_none, w_fz0, w_fz1, w_t0, w_t1, w_t2, w_t3, w_t4, w_add, w_addL, w_addT, w_sub, w_subB, w_mul, w_mulL, w_mulT, w_mod, w_div, w_lt, w_le, w_gt, w_ge, w_is, w_isnt, w_n0, w_n1, w_n2, w_n3, w_n4, w_neg, w_atL, w_atT, w_lenL, w_lenT, w_tupL, w_tupT, w_lisL, w_lisT, w_abs, w_int, w_intB, w_gcd, w_min, w_max, w_seqL, w_seqT, w_augA, w_augS, w_augM, w_intQ, w_lstQ, w_rng1, w_rng2, w_zipL, w_zipT, w_zipM, w_zipN, w_enum, w_enumT, atI0, atI1]
  exact ⟨ha.mulOk hd (by omega), hc.mulOk hb (by omega), hP⟩

theorem imp__law_total {Γ : Gam} (e : Γ.Φ "_law_plus" = φ__law_plus) (as : List Sl) (P : D → Prop) (PE : Str → Prop) (h : φ__law_total as P PE) : spW Γ d__law_total as P PE := by
  obtain ⟨b, l, m, rfl, hs, hm, hP⟩ := h
  refine ⟨rfl, ?_⟩
  simp only [d__law_total, true_and, wpSs, wpS, wpE, wpX, wpO, wpC, wpI, ent, kt0, bindT, bindTs, tgsLen, wipeR, constD, owL, List.map_cons, List.map_nil, List.length_cons, List.length_nil, List.replicate, List.cons_append, List.nil_append, Nat.reduceSub, Nat.reduceAdd, List.getElem?_cons_zero, List.getElem?_cons_succ, List.getElem?_nil, List.set_cons_zero, List.set_cons_succ, opF, cmpF, Bi.fd, Option.map_some, if_true, if_false, Bool.true_eq_false, Bool.false_eq_true, reduceIte, Bool.not_true, Bool.not_false, w_some, w_none, w_fz0, w_fz1, w_t0, w_t1, w_t2, w_t3, w_t4, w_add, w_addL, w_addT, w_sub, w_subB, w_mul, w_mulL, w_mulT, w_mod, w_div, w_lt, w_le, w_gt, w_ge, w_is, w_isnt, w_n0, w_n1, w_n2, w_n3, w_n4, w_neg, w_atL, w_atT, w_lenL, w_lenT, w_tupL, w_tupT, w_lisL, w_lisT, w_abs, w_int, w_intB, w_gcd, w_min, w_max, w_seqL, w_seqT, w_augA, w_augS, w_augM, w_intQ, w_lstQ, w_rng1, w_rng2, w_zipL, w_zipT, w_zipM, w_zipN, w_enum, w_enumT]
  refine seqOf_seqD (forW_inv (I := fun done ρ => ∃ y, ρ = [some (.fz (seqD b (l.map qD))), some (.fz (qD (qsum done))), y]) ⟨none, rfl⟩ (fun done x rest ρ kk el hI hk => ?_) (fun ρ hI => ?_))
  · obtain ⟨y, rfl⟩ := hI
    have h1 := hs.su done (x :: rest) el
    have h2 := hs.it x (by rw [el]; simp)
    simp only [true_and, wpSs, wpS, wpE, wpX, wpO, wpC, wpI, ent, kt0, bindT, bindTs, tgsLen, wipeR, constD, owL, List.map_cons, List.map_nil, List.length_cons, List.length_nil, List.replicate, List.cons_append, List.nil_append, Nat.reduceSub, Nat.reduceAdd, List.getElem?_cons_zero, List.getElem?_cons_succ, List.getElem?_nil, List.set_cons_zero, List.set_cons_succ, opF, cmpF, Bi.fd, Option.map_some, if_true, if_false, Bool.true_eq_false, Bool.false_eq_true, reduceIte, Bool.not_true, Bool.not_false, w_some, w_none, w_fz0, w_fz1, w_t0, w_t1, w_t2, w_t3, w_t4, w_add, w_addL, w_addT, w_sub, w_subB, w_mul, w_mulL, w_mulT, w_mod, w_div, w_lt, w_le, w_gt, w_ge, w_is, w_isnt, w_n0, w_n1, w_n2, w_n3, w_n4, w_neg, w_atL, w_atT, w_lenL, w_lenT, w_tupL, w_tupT, w_lisL, w_lisT, w_abs, w_int, w_intB, w_gcd, w_min, w_max, w_seqL, w_seqT, w_augA, w_augS, w_augM, w_intQ, w_lstQ, w_rng1, w_rng2, w_zipL, w_zipT, w_zipM, w_zipN, w_enum, w_enumT]
    rw [e]
    refine ⟨_, _, _, _, rfl, h1, h2, by omega, hk _ ⟨some (.fz (qD x)), ?_⟩⟩
    rw [qsum_snoc]
  · obtain ⟨y, rfl⟩ := hI
    simp only [true_and, wpSs, wpS, wpE, wpX, wpO, wpC, wpI, ent, kt0, bindT, bindTs, tgsLen, wipeR, constD, owL, List.map_cons, List.map_nil, List.length_cons, List.length_nil, List.replicate, List.cons_append, List.nil_append, Nat.reduceSub, Nat.reduceAdd, List.getElem?_cons_zero, List.getElem?_cons_succ, List.getElem?_nil, List.set_cons_zero, List.set_cons_succ, opF, cmpF, Bi.fd, Option.map_some, if_true, if_false, Bool.true_eq_false, Bool.false_eq_true, reduceIte, Bool.not_true, Bool.not_false, w_some, w_none, w_fz0, w_fz1, w_t0, w_t1, w_t2, w_t3, w_t4, w_add, w_addL, w_addT, w_sub, w_subB, w_mul, w_mulL, w_mulT, w_mod, w_div, w_lt, w_le, w_gt, w_ge, w_is, w_isnt, w_n0, w_n1, w_n2, w_n3, w_n4, w_neg, w_atL, w_atT, w_lenL, w_lenT, w_tupL, w_tupT, w_lisL, w_lisT, w_abs, w_int, w_intB, w_gcd, w_min, w_max, w_seqL, w_seqT, w_augA, w_augS, w_augM, w_intQ, w_lstQ, w_rng1, w_rng2, w_zipL, w_zipT, w_zipM, w_zipN, w_enum, w_enumT]
    exact hP

theorem imp__law_row {Γ : Gam} (e1 : Γ.Φ "_law_take" = φTake) (e2 : Γ.Φ "_law_lowest" = φ__law_lowest) (as : List Sl) (P : D → Prop) (PE : Str → Prop) (h : φ__law_row as P PE) : spW Γ d__law_row as P PE := by
  obtain ⟨m, rfl, hm1, hm2, hP⟩ := h
  refine ⟨rfl, ?_⟩
  simp only [d__law_row, true_and, wpSs, wpS, wpE, wpX, wpO, wpC, wpI, ent, kt0, bindT, bindTs, tgsLen, wipeR, constD, owL, List.map_cons, List.map_nil, List.length_cons, List.length_nil, List.replicate, List.cons_append, List.nil_append, Nat.reduceSub, Nat.reduceAdd, List.getElem?_cons_zero, List.getElem?_cons_succ, List.getElem?_nil, List.set_cons_zero, List.set_cons_succ, opF, cmpF, Bi.fd, Option.map_some, if_true, if_false, Bool.true_eq_false, Bool.false_eq_true, reduceIte, Bool.not_true, Bool.not_false, w_some, w_none, w_fz0, w_fz1, w_t0, w_t1, w_t2, w_t3, w_t4, w_add, w_addL, w_addT, w_sub, w_subB, w_mul, w_mulL, w_mulT, w_mod, w_div, w_lt, w_le, w_gt, w_ge, w_is, w_isnt, w_n0, w_n1, w_n2, w_n3, w_n4, w_neg, w_atL, w_atT, w_lenL, w_lenT, w_tupL, w_tupT, w_lisL, w_lisT, w_abs, w_int, w_intB, w_gcd, w_min, w_max, w_seqL, w_seqT, w_augA, w_augS, w_augM, w_intQ, w_lstQ, w_rng1, w_rng2, w_zipL, w_zipT, w_zipM, w_zipN, w_enum, w_enumT, e1]
  refine ⟨rngOk_small (by omega) (by omega), ?_⟩
  rw [Int.toNat_natCast, rangeD0]
  refine ⟨by rw [List.length_map, List.length_range]; exact small (by omega), ?_⟩
  refine foldW_any (R := fun _ y => ∃ i : Int, y = PyData.int i ∧ (0 ≤ i ∧ i ≤ 3)) (fun k acc kk hk hkk => ?_) (fun ys hys => ?_)
  · refine ⟨5, rfl, by decide, by decide, fun z z0 z1 => ?_⟩
    have : z = 0 ∨ z = 1 ∨ z = 2 ∨ z = 3 ∨ z = 4 := by omega
    rcases this with rfl | rfl | rfl | rfl | rfl
    · exact hkk _ ⟨0, rfl, by decide, by decide⟩
    · exact hkk _ ⟨1, rfl, by decide, by decide⟩
    · exact hkk _ ⟨1, rfl, by decide, by decide⟩
    · exact hkk _ ⟨2, rfl, by decide, by decide⟩
    · exact hkk _ ⟨3, rfl, by decide, by decide⟩
  · obtain ⟨ws, rfl, hl, hw⟩ := paired_ints hys
    rw [List.length_range] at hl
    refine ⟨(m : Int), rfl, by omega, by omega, fun z z0 z1 => ?_⟩
    obtain ⟨j, rfl⟩ : ∃ j : Nat, z = (j : Int) := ⟨z.toNat, by omega⟩
    have hj : j < ws.length := by omega
    have ea : atI (ws.map PyData.int) (j : Int) = some (.int ws[j]) := atI_nat (by rw [List.getElem?_map, List.getElem?_eq_getElem hj]; rfl)
    have ei : ixN (ws.map PyData.int).length (j : Int) = some j := by
      unfold ixN
      rw [List.length_map, if_pos (by omega), if_pos (by omega), Int.toNat_natCast]
    simp only [true_and, wpSs, wpS, wpE, wpX, wpO, wpC, wpI, ent, kt0, bindT, bindTs, tgsLen, wipeR, constD, owL, List.map_cons, List.map_nil, List.length_cons, List.length_nil, List.replicate, List.cons_append, List.nil_append, Nat.reduceSub, Nat.reduceAdd, List.getElem?_cons_zero, List.getElem?_cons_succ, List.getElem?_nil, List.set_cons_zero, List.set_cons_succ, opF, cmpF, Bi.fd, Option.map_some, if_true, if_false, Bool.true_eq_false, Bool.false_eq_true, reduceIte, Bool.not_true, Bool.not_false, w_some, w_none, w_fz0, w_fz1, w_t0, w_t1, w_t2, w_t3, w_t4, w_add, w_addL, w_addT, w_sub, w_subB, w_mul, w_mulL, w_mulT, w_mod, w_div, w_lt, w_le, w_gt, w_ge, w_is, w_isnt, w_n0, w_n1, w_n2, w_n3, w_n4, w_neg, w_atL, w_atT, w_lenL, w_lenT, w_tupL, w_tupT, w_lisL, w_lisT, w_abs, w_int, w_intB, w_gcd, w_min, w_max, w_seqL, w_seqT, w_augA, w_augS, w_augM, w_intQ, w_lstQ, w_rng1, w_rng2, w_zipL, w_zipT, w_zipM, w_zipN, w_enum, w_enumT, ea, ei]
    have es : (ws.map PyData.int).set j (PyData.int (ws[j] + 1)) = (ws.set j (ws[j] + 1)).map PyData.int := List.map_set.symm
    rw [es]
    have hsum : (ws.set j (ws[j] + 1)).sum = ws.sum + 1 := by rw [sum_set hj]; omega
    have hnn : ∀ w ∈ ws.set j (ws[j] + 1), 0 ≤ w := fun w hw2 => by
      rcases List.mem_or_eq_of_mem_set hw2 with h | h
      · exact (hw w h).1
      · have := (hw _ (List.getElem_mem hj)).1
        omega
    have s0 := sum_nonneg fun w h => (hw w h).1
    have s3 := sum_le_mul (B := 3) fun w h => (hw w h).2
    have hR : RowW m (ws.set j (ws[j] + 1)) (ws.sum + 1) := ⟨by rw [List.length_set]; exact hl, hnn, hsum, by omega, by rw [hl] at s3; omega⟩
    have hP := hP _ _ hR
    generalize ws.set j (ws[j] + 1) = us at *
    generalize ws.sum + 1 = S at *
    refine ⟨by rw [List.length_map, hR.len]; exact small (by omega), ?_⟩
    refine foldW_map (fun w => qD (Rat.divInt w S)) (fun w acc kk hw hk => ?_) ?_
    · have h1 := hR.s1
      have h2 := hR.s2
      have h3 := hnn w hw
      have h4 := le_sum hnn hw
      simp only [dSum, intsOf_map, w_some, e2, hsum]
      exact ⟨w, S, 7, 7, rfl, by omega, bd7 h3 (by omega), bd7 (by omega) h2, by decide, by decide, hk⟩
    · exact hP

theorem imp__law_channel {Γ : Gam} (e1 : Γ.Φ "_law_take" = φTake) (e2 : Γ.Φ "_law_row" = φ__law_row) (as : List Sl) (P : D → Prop) (PE : Str → Prop) (h : φ__law_channel as P PE) : spW Γ d__law_channel as P PE := by
  obtain ⟨m, n, rfl, m1, m2, n1, n2, hP⟩ := h
  refine ⟨rfl, ?_⟩
  simp only [d__law_channel, true_and, wpSs, wpS, wpE, wpX, wpO, wpC, wpI, ent, kt0, bindT, bindTs, tgsLen, wipeR, constD, owL, List.map_cons, List.map_nil, List.length_cons, List.length_nil, List.replicate, List.cons_append, List.nil_append, Nat.reduceSub, Nat.reduceAdd, List.getElem?_cons_zero, List.getElem?_cons_succ, List.getElem?_nil, List.set_cons_zero, List.set_cons_succ, opF, cmpF, Bi.fd, Option.map_some, if_true, if_false, Bool.true_eq_false, Bool.false_eq_true, reduceIte, Bool.not_true, Bool.not_false, w_some, w_none, w_fz0, w_fz1, w_t0, w_t1, w_t2, w_t3, w_t4, w_add, w_addL, w_addT, w_sub, w_subB, w_mul, w_mulL, w_mulT, w_mod, w_div, w_lt, w_le, w_gt, w_ge, w_is, w_isnt, w_n0, w_n1, w_n2, w_n3, w_n4, w_neg, w_atL, w_atT, w_lenL, w_lenT, w_tupL, w_tupT, w_lisL, w_lisT, w_abs, w_int, w_intB, w_gcd, w_min, w_max, w_seqL, w_seqT, w_augA, w_augS, w_augM, w_intQ, w_lstQ, w_rng1, w_rng2, w_zipL, w_zipT, w_zipM, w_zipN, w_enum, w_enumT, e1, e2]
  refine ⟨rngOk_small (by omega) (by omega), ?_⟩
  rw [Int.toNat_natCast, rangeD0]
  refine ⟨by rw [List.length_map, List.length_range]; exact small (by omega), ?_⟩
  refine foldW_any (R := fun _ y => ∃ r, y = rowQ r ∧ ChR n r) (fun k acc kk hk hkk => ?_) (fun ys hys => ?_)
  · exact ⟨n, rfl, n1, n2, fun ws S hR => hkk _ ⟨_, rowD_rowQ ws S, hR.chr⟩⟩
  · obtain ⟨c, rfl, hl, hc⟩ := paired_map hys
    rw [List.length_range] at hl
    have out : ∀ c : List (List Rat), c.length = m → (∀ r ∈ c, ChR n r) → P (.tuple (c.map rowQ)) := fun c h1 h2 => hP c ⟨h1, h2⟩
    have e : ∀ z : Int, dEq (.int z) (.int 0) = dEq (.int z) (.int 0) := fun _ => rfl
    by_cases c1 : (m : Int) > 1
    · rw [decide_eq_true c1]
      simp only [true_and, wpSs, wpS, wpE, wpX, wpO, wpC, wpI, ent, kt0, bindT, bindTs, tgsLen, wipeR, constD, owL, List.map_cons, List.map_nil, List.length_cons, List.length_nil, List.replicate, List.cons_append, List.nil_append, Nat.reduceSub, Nat.reduceAdd, List.getElem?_cons_zero, List.getElem?_cons_succ, List.getElem?_nil, List.set_cons_zero, List.set_cons_succ, opF, cmpF, Bi.fd, Option.map_some, if_true, if_false, Bool.true_eq_false, Bool.false_eq_true, reduceIte, Bool.not_true, Bool.not_false, w_some, w_none, w_fz0, w_fz1, w_t0, w_t1, w_t2, w_t3, w_t4, w_add, w_addL, w_addT, w_sub, w_subB, w_mul, w_mulL, w_mulT, w_mod, w_div, w_lt, w_le, w_gt, w_ge, w_is, w_isnt, w_n0, w_n1, w_n2, w_n3, w_n4, w_neg, w_atL, w_atT, w_lenL, w_lenT, w_tupL, w_tupT, w_lisL, w_lisT, w_abs, w_int, w_intB, w_gcd, w_min, w_max, w_seqL, w_seqT, w_augA, w_augS, w_augM, w_intQ, w_lstQ, w_rng1, w_rng2, w_zipL, w_zipT, w_zipM, w_zipN, w_enum, w_enumT]
      refine ⟨4, rfl, by decide, by decide, fun z z0 z1 => dEqI ?_⟩
      by_cases c2 : z = 0
      · rw [decide_eq_true c2]
        simp only [true_and, wpSs, wpS, wpE, wpX, wpO, wpC, wpI, ent, kt0, bindT, bindTs, tgsLen, wipeR, constD, owL, List.map_cons, List.map_nil, List.length_cons, List.length_nil, List.replicate, List.cons_append, List.nil_append, Nat.reduceSub, Nat.reduceAdd, List.getElem?_cons_zero, List.getElem?_cons_succ, List.getElem?_nil, List.set_cons_zero, List.set_cons_succ, opF, cmpF, Bi.fd, Option.map_some, if_true, if_false, Bool.true_eq_false, Bool.false_eq_true, reduceIte, Bool.not_true, Bool.not_false, w_some, w_none, w_fz0, w_fz1, w_t0, w_t1, w_t2, w_t3, w_t4, w_add, w_addL, w_addT, w_sub, w_subB, w_mul, w_mulL, w_mulT, w_mod, w_div, w_lt, w_le, w_gt, w_ge, w_is, w_isnt, w_n0, w_n1, w_n2, w_n3, w_n4, w_neg, w_atL, w_atT, w_lenL, w_lenT, w_tupL, w_tupT, w_lisL, w_lisT, w_abs, w_int, w_intB, w_gcd, w_min, w_max, w_seqL, w_seqT, w_augA, w_augS, w_augM, w_intQ, w_lstQ, w_rng1, w_rng2, w_zipL, w_zipT, w_zipM, w_zipN, w_enum, w_enumT]
        refine ⟨m, rfl, by omega, by omega, fun u u0 u1 => ?_⟩
        obtain ⟨j, rfl⟩ : ∃ j : Nat, u = (j : Int) := ⟨u.toNat, by omega⟩
        simp only [true_and, wpSs, wpS, wpE, wpX, wpO, wpC, wpI, ent, kt0, bindT, bindTs, tgsLen, wipeR, constD, owL, List.map_cons, List.map_nil, List.length_cons, List.length_nil, List.replicate, List.cons_append, List.nil_append, Nat.reduceSub, Nat.reduceAdd, List.getElem?_cons_zero, List.getElem?_cons_succ, List.getElem?_nil, List.set_cons_zero, List.set_cons_succ, opF, cmpF, Bi.fd, Option.map_some, if_true, if_false, Bool.true_eq_false, Bool.false_eq_true, reduceIte, Bool.not_true, Bool.not_false, w_some, w_none, w_fz0, w_fz1, w_t0, w_t1, w_t2, w_t3, w_t4, w_add, w_addL, w_addT, w_sub, w_subB, w_mul, w_mulL, w_mulT, w_mod, w_div, w_lt, w_le, w_gt, w_ge, w_is, w_isnt, w_n0, w_n1, w_n2, w_n3, w_n4, w_neg, w_atL, w_atT, w_lenL, w_lenT, w_tupL, w_tupT, w_lisL, w_lisT, w_abs, w_int, w_intB, w_gcd, w_min, w_max, w_seqL, w_seqT, w_augA, w_augS, w_augM, w_intQ, w_lstQ, w_rng1, w_rng2, w_zipL, w_zipT, w_zipM, w_zipN, w_enum, w_enumT]
        rw [at_map (getD_some [] (show j < c.length by omega))]
        simp only [true_and, wpSs, wpS, wpE, wpX, wpO, wpC, wpI, ent, kt0, bindT, bindTs, tgsLen, wipeR, constD, owL, List.map_cons, List.map_nil, List.length_cons, List.length_nil, List.replicate, List.cons_append, List.nil_append, Nat.reduceSub, Nat.reduceAdd, List.getElem?_cons_zero, List.getElem?_cons_succ, List.getElem?_nil, List.set_cons_zero, List.set_cons_succ, opF, cmpF, Bi.fd, Option.map_some, if_true, if_false, Bool.true_eq_false, Bool.false_eq_true, reduceIte, Bool.not_true, Bool.not_false, w_some, w_none, w_fz0, w_fz1, w_t0, w_t1, w_t2, w_t3, w_t4, w_add, w_addL, w_addT, w_sub, w_subB, w_mul, w_mulL, w_mulT, w_mod, w_div, w_lt, w_le, w_gt, w_ge, w_is, w_isnt, w_n0, w_n1, w_n2, w_n3, w_n4, w_neg, w_atL, w_atT, w_lenL, w_lenT, w_tupL, w_tupT, w_lisL, w_lisT, w_abs, w_int, w_intB, w_gcd, w_min, w_max, w_seqL, w_seqT, w_augA, w_augS, w_augM, w_intQ, w_lstQ, w_rng1, w_rng2, w_zipL, w_zipT, w_zipM, w_zipN, w_enum, w_enumT]
        refine ⟨m, rfl, by omega, by omega, fun v v0 v1 => ?_⟩
        obtain ⟨i, rfl⟩ : ∃ i : Nat, v = (i : Int) := ⟨v.toNat, by omega⟩
        simp only [true_and, wpSs, wpS, wpE, wpX, wpO, wpC, wpI, ent, kt0, bindT, bindTs, tgsLen, wipeR, constD, owL, List.map_cons, List.map_nil, List.length_cons, List.length_nil, List.replicate, List.cons_append, List.nil_append, Nat.reduceSub, Nat.reduceAdd, List.getElem?_cons_zero, List.getElem?_cons_succ, List.getElem?_nil, List.set_cons_zero, List.set_cons_succ, opF, cmpF, Bi.fd, Option.map_some, if_true, if_false, Bool.true_eq_false, Bool.false_eq_true, reduceIte, Bool.not_true, Bool.not_false, w_some, w_none, w_fz0, w_fz1, w_t0, w_t1, w_t2, w_t3, w_t4, w_add, w_addL, w_addT, w_sub, w_subB, w_mul, w_mulL, w_mulT, w_mod, w_div, w_lt, w_le, w_gt, w_ge, w_is, w_isnt, w_n0, w_n1, w_n2, w_n3, w_n4, w_neg, w_atL, w_atT, w_lenL, w_lenT, w_tupL, w_tupT, w_lisL, w_lisT, w_abs, w_int, w_intB, w_gcd, w_min, w_max, w_seqL, w_seqT, w_augA, w_augS, w_augM, w_intQ, w_lstQ, w_rng1, w_rng2, w_zipL, w_zipT, w_zipM, w_zipN, w_enum, w_enumT]
        rw [ixN_nat (by rw [List.length_map]; omega)]
        simp only [true_and, wpSs, wpS, wpE, wpX, wpO, wpC, wpI, ent, kt0, bindT, bindTs, tgsLen, wipeR, constD, owL, List.map_cons, List.map_nil, List.length_cons, List.length_nil, List.replicate, List.cons_append, List.nil_append, Nat.reduceSub, Nat.reduceAdd, List.getElem?_cons_zero, List.getElem?_cons_succ, List.getElem?_nil, List.set_cons_zero, List.set_cons_succ, opF, cmpF, Bi.fd, Option.map_some, if_true, if_false, Bool.true_eq_false, Bool.false_eq_true, reduceIte, Bool.not_true, Bool.not_false, w_some, w_none, w_fz0, w_fz1, w_t0, w_t1, w_t2, w_t3, w_t4, w_add, w_addL, w_addT, w_sub, w_subB, w_mul, w_mulL, w_mulT, w_mod, w_div, w_lt, w_le, w_gt, w_ge, w_is, w_isnt, w_n0, w_n1, w_n2, w_n3, w_n4, w_neg, w_atL, w_atT, w_lenL, w_lenT, w_tupL, w_tupT, w_lisL, w_lisT, w_abs, w_int, w_intB, w_gcd, w_min, w_max, w_seqL, w_seqT, w_augA, w_augS, w_augM, w_intQ, w_lstQ, w_rng1, w_rng2, w_zipL, w_zipT, w_zipM, w_zipN, w_enum, w_enumT]
        rw [← List.map_set]
        refine out _ (by rw [List.length_set]; exact hl) fun r hr => ?_
        rcases List.mem_or_eq_of_mem_set hr with h | h
        · exact hc r h
        · rw [h]
          exact hc _ (getD_mem [] (by omega))
      · rw [decide_eq_false c2]
        simp only [true_and, wpSs, wpS, wpE, wpX, wpO, wpC, wpI, ent, kt0, bindT, bindTs, tgsLen, wipeR, constD, owL, List.map_cons, List.map_nil, List.length_cons, List.length_nil, List.replicate, List.cons_append, List.nil_append, Nat.reduceSub, Nat.reduceAdd, List.getElem?_cons_zero, List.getElem?_cons_succ, List.getElem?_nil, List.set_cons_zero, List.set_cons_succ, opF, cmpF, Bi.fd, Option.map_some, if_true, if_false, Bool.true_eq_false, Bool.false_eq_true, reduceIte, Bool.not_true, Bool.not_false, w_some, w_none, w_fz0, w_fz1, w_t0, w_t1, w_t2, w_t3, w_t4, w_add, w_addL, w_addT, w_sub, w_subB, w_mul, w_mulL, w_mulT, w_mod, w_div, w_lt, w_le, w_gt, w_ge, w_is, w_isnt, w_n0, w_n1, w_n2, w_n3, w_n4, w_neg, w_atL, w_atT, w_lenL, w_lenT, w_tupL, w_tupT, w_lisL, w_lisT, w_abs, w_int, w_intB, w_gcd, w_min, w_max, w_seqL, w_seqT, w_augA, w_augS, w_augM, w_intQ, w_lstQ, w_rng1, w_rng2, w_zipL, w_zipT, w_zipM, w_zipN, w_enum, w_enumT]
        exact out c hl hc
    · rw [decide_eq_false c1]
      simp only [true_and, wpSs, wpS, wpE, wpX, wpO, wpC, wpI, ent, kt0, bindT, bindTs, tgsLen, wipeR, constD, owL, List.map_cons, List.map_nil, List.length_cons, List.length_nil, List.replicate, List.cons_append, List.nil_append, Nat.reduceSub, Nat.reduceAdd, List.getElem?_cons_zero, List.getElem?_cons_succ, List.getElem?_nil, List.set_cons_zero, List.set_cons_succ, opF, cmpF, Bi.fd, Option.map_some, if_true, if_false, Bool.true_eq_false, Bool.false_eq_true, reduceIte, Bool.not_true, Bool.not_false, w_some, w_none, w_fz0, w_fz1, w_t0, w_t1, w_t2, w_t3, w_t4, w_add, w_addL, w_addT, w_sub, w_subB, w_mul, w_mulL, w_mulT, w_mod, w_div, w_lt, w_le, w_gt, w_ge, w_is, w_isnt, w_n0, w_n1, w_n2, w_n3, w_n4, w_neg, w_atL, w_atT, w_lenL, w_lenT, w_tupL, w_tupT, w_lisL, w_lisT, w_abs, w_int, w_intB, w_gcd, w_min, w_max, w_seqL, w_seqT, w_augA, w_augS, w_augM, w_intQ, w_lstQ, w_rng1, w_rng2, w_zipL, w_zipT, w_zipM, w_zipN, w_enum, w_enumT]
      exact out c hl hc

theorem imp__law_gains {Γ : Gam} (e1 : Γ.Φ "_law_take" = φTake) (as : List Sl) (P : D → Prop) (PE : Str → Prop) (h : φ__law_gains as P PE) : spW Γ d__law_gains as P PE := by
  obtain ⟨m, most, rfl, m2, n1, n2, hP⟩ := h
  refine ⟨rfl, ?_⟩
  simp only [d__law_gains, true_and, wpSs, wpS, wpE, wpX, wpO, wpC, wpI, ent, kt0, bindT, bindTs, tgsLen, wipeR, constD, owL, List.map_cons, List.map_nil, List.length_cons, List.length_nil, List.replicate, List.cons_append, List.nil_append, Nat.reduceSub, Nat.reduceAdd, List.getElem?_cons_zero, List.getElem?_cons_succ, List.getElem?_nil, List.set_cons_zero, List.set_cons_succ, opF, cmpF, Bi.fd, Option.map_some, if_true, if_false, Bool.true_eq_false, Bool.false_eq_true, reduceIte, Bool.not_true, Bool.not_false, w_some, w_none, w_fz0, w_fz1, w_t0, w_t1, w_t2, w_t3, w_t4, w_add, w_addL, w_addT, w_sub, w_subB, w_mul, w_mulL, w_mulT, w_mod, w_div, w_lt, w_le, w_gt, w_ge, w_is, w_isnt, w_n0, w_n1, w_n2, w_n3, w_n4, w_neg, w_atL, w_atT, w_lenL, w_lenT, w_tupL, w_tupT, w_lisL, w_lisT, w_abs, w_int, w_intB, w_gcd, w_min, w_max, w_seqL, w_seqT, w_augA, w_augS, w_augM, w_intQ, w_lstQ, w_rng1, w_rng2, w_zipL, w_zipT, w_zipM, w_zipN, w_enum, w_enumT, e1]
  refine ⟨most, rfl, by omega, by omega, fun z z0 z1 => ?_⟩
  obtain ⟨k, rfl⟩ : ∃ k : Nat, z = (k : Int) := ⟨z.toNat, by omega⟩
  simp only [true_and, wpSs, wpS, wpE, wpX, wpO, wpC, wpI, ent, kt0, bindT, bindTs, tgsLen, wipeR, constD, owL, List.map_cons, List.map_nil, List.length_cons, List.length_nil, List.replicate, List.cons_append, List.nil_append, Nat.reduceSub, Nat.reduceAdd, List.getElem?_cons_zero, List.getElem?_cons_succ, List.getElem?_nil, List.set_cons_zero, List.set_cons_succ, opF, cmpF, Bi.fd, Option.map_some, if_true, if_false, Bool.true_eq_false, Bool.false_eq_true, reduceIte, Bool.not_true, Bool.not_false, w_some, w_none, w_fz0, w_fz1, w_t0, w_t1, w_t2, w_t3, w_t4, w_add, w_addL, w_addT, w_sub, w_subB, w_mul, w_mulL, w_mulT, w_mod, w_div, w_lt, w_le, w_gt, w_ge, w_is, w_isnt, w_n0, w_n1, w_n2, w_n3, w_n4, w_neg, w_atL, w_atT, w_lenL, w_lenT, w_tupL, w_tupT, w_lisL, w_lisT, w_abs, w_int, w_intB, w_gcd, w_min, w_max, w_seqL, w_seqT, w_augA, w_augS, w_augM, w_intQ, w_lstQ, w_rng1, w_rng2, w_zipL, w_zipT, w_zipM, w_zipN, w_enum, w_enumT]
  refine ⟨rngOk_small (by omega) (by omega), ?_⟩
  rw [show (1 + (k : Int)).toNat = k + 1 by omega, rangeD0]
  refine ⟨by rw [List.length_map, List.length_range]; exact small (by omega), ?_⟩
  refine foldW_any (R := fun _ y => ∃ r, y = rowI r ∧ (r.length = m ∧ ∀ x ∈ r, -3 ≤ x ∧ x ≤ 5)) (fun i acc kk hi hkk => ?_) (fun ys hys => ?_)
  · refine ⟨rngOk_small (by omega) (by omega), ?_⟩
    rw [Int.toNat_natCast, rangeD0]
    refine ⟨by rw [List.length_map, List.length_range]; exact small (by omega), ?_⟩
    refine foldW_any (R := fun _ y => ∃ i : Int, y = PyData.int i ∧ (-3 ≤ i ∧ i ≤ 5)) (fun i acc kk hi hkk => ?_) (fun ys hys => ?_)
    · refine ⟨5, rfl, by decide, by decide, fun z z0 z1 => ?_⟩
      have : z = 0 ∨ z = 1 ∨ z = 2 ∨ z = 3 ∨ z = 4 := by omega
      rcases this with rfl | rfl | rfl | rfl | rfl
      · exact hkk _ ⟨0, rfl, by decide, by decide⟩
      · exact hkk _ ⟨1, rfl, by decide, by decide⟩
      · exact hkk _ ⟨2, rfl, by decide, by decide⟩
      · exact hkk _ ⟨5, rfl, by decide, by decide⟩
      · exact hkk _ ⟨-3, rfl, by decide, by decide⟩
    · obtain ⟨ws, rfl, hl, hw⟩ := paired_ints hys
      rw [List.length_range] at hl
      exact hkk _ ⟨ws, rfl, hl, hw⟩
  · obtain ⟨g, rfl, hl, hg⟩ := paired_rows hys
    rw [List.length_range] at hl
    exact hP g ⟨by omega, by omega, hg⟩

end DL

set_option Elab.async false
set_option linter.all false
set_option maxRecDepth 100000
set_option maxHeartbeats 4000000
namespace DL
open PySem PySem.Spec PyProof.Rows L2
/-! ### guessing on: the sum of k times the k-th greatest -/
def mn (a b : Rat) : Rat := if a ≤ b then a else b
def G : List Rat → Rat
  | [] => 0
  | x :: l => x + qsum (l.map (mn x)) + G l
theorem mn_comm (a b : Rat) : mn a b = mn b a := by unfold mn; grind
theorem qsum_permA {a b : List Rat} (h : a.Perm b) : qsum a = qsum b := by
  induction h with
  | nil => rfl
  | cons x _ ih => rw [qsum_cons, qsum_cons, ih]
  | swap x y l => simp only [qsum_cons]; grind
  | trans _ _ h1 h2 => rw [h1, h2]
theorem G_perm {l l' : List Rat} (h : l.Perm l') : G l = G l' := by
  induction h with
  | nil => rfl
  | @cons x a b h ih =>
    show x + qsum (a.map (mn x)) + G a = x + qsum (b.map (mn x)) + G b
    rw [ih, qsum_permA (h.map _)]
  | swap x y l =>
    show y + qsum ((x :: l).map (mn y)) + (x + qsum (l.map (mn x)) + G l) = x + qsum ((y :: l).map (mn x)) + (y + qsum (l.map (mn y)) + G l)
    rw [List.map_cons, List.map_cons, qsum_cons, qsum_cons, mn_comm y x]
    grind
  | trans _ _ h1 h2 => rw [h1, h2]
theorem G_snoc {x : Rat} : ∀ {l : List Rat}, (∀ y ∈ l, x ≤ y) → G (l ++ [x]) = G l + ((l.length + 1 : Nat) : Rat) * x
  | [], _ => by
    show x + qsum [] + 0 = 0 + ((0 + 1 : Nat) : Rat) * x
    rw [qsum_nil]
    simp
    grind
  | a :: l, h => by
    have ih := G_snoc (x := x) fun y hy => h y (List.mem_cons_of_mem _ hy)
    have ha := h a List.mem_cons_self
    have hm : mn a x = x := by unfold mn; grind
    show a + qsum ((l ++ [x]).map (mn a)) + G (l ++ [x]) = a + qsum (l.map (mn a)) + G l + _
    rw [ih, List.map_append, List.map_cons, List.map_nil, qsum_snoc, hm, List.length_cons]
    have : ((l.length + 1 + 1 : Nat) : Rat) = ((l.length + 1 : Nat) : Rat) + 1 := by
      rw [Rat.natCast_add]
      rfl
    rw [this]
    grind
section
variable {α : Type}
theorem qsum_mapAdd (f g : α → Rat) : ∀ l : List α, qsum (l.map fun x => f x + g x) = qsum (l.map f) + qsum (l.map g)
  | [] => by simp only [List.map_nil, qsum_nil]; grind
  | x :: l => by
    rw [List.map_cons, List.map_cons, List.map_cons, qsum_cons, qsum_cons, qsum_cons, qsum_mapAdd f g l]
    grind
theorem qsum_mapMul (k : Rat) (f : α → Rat) : ∀ l : List α, qsum (l.map fun x => k * f x) = k * qsum (l.map f)
  | [] => by simp only [List.map_nil, qsum_nil]; grind
  | x :: l => by
    rw [List.map_cons, List.map_cons, qsum_cons, qsum_cons, qsum_mapMul k f l]
    grind
theorem qsum_mapLe {f g : α → Rat} : ∀ {l : List α}, (∀ x ∈ l, f x ≤ g x) → qsum (l.map f) ≤ qsum (l.map g)
  | [], _ => Rat.le_refl
  | x :: l, h => by
    have h1 := h x List.mem_cons_self
    have h2 := qsum_mapLe fun y hy => h y (List.mem_cons_of_mem _ hy)
    rw [List.map_cons, List.map_cons, qsum_cons, qsum_cons]
    grind
theorem qsum_zero (l : List α) : qsum (l.map fun _ => (0 : Rat)) = 0 := by
  induction l with
  | nil => rfl
  | cons x l ih =>
    rw [List.map_cons, qsum_cons, ih]
    grind
theorem qsum_swap {β : Type} (f : α → β → Rat) : ∀ (l : List α) (m : List β), qsum (l.map fun x => qsum (m.map fun y => f x y)) = qsum (m.map fun y => qsum (l.map fun x => f x y))
  | [], m => by
    rw [List.map_nil, qsum_nil]
    exact (qsum_zero m).symm
  | x :: l, m => by
    rw [List.map_cons, qsum_cons, qsum_swap f l m, ← qsum_mapAdd]
    rfl
theorem G_add (u v : α → Rat) : ∀ l : List α, G (l.map u) + G (l.map v) ≤ G (l.map fun x => u x + v x)
  | [] => by show (0 : Rat) + 0 ≤ 0; grind
  | x :: l => by
    have ih := G_add u v l
    have h1 : qsum ((l.map u).map (mn (u x))) + qsum ((l.map v).map (mn (v x))) ≤ qsum ((l.map fun x => u x + v x).map (mn (u x + v x))) := by
      rw [List.map_map, List.map_map, List.map_map, ← qsum_mapAdd]
      refine qsum_mapLe fun y _ => ?_
      simp only [Function.comp_apply]
      unfold mn
      grind
    show u x + qsum ((l.map u).map (mn (u x))) + G (l.map u) + (v x + qsum ((l.map v).map (mn (v x))) + G (l.map v)) ≤ (u x + v x) + qsum ((l.map fun x => u x + v x).map (mn (u x + v x))) + G (l.map fun x => u x + v x)
    grind
theorem mn_mul {k a b : Rat} (hk : 0 ≤ k) : mn (k * a) (k * b) = k * mn a b := by
  unfold mn
  by_cases h : a ≤ b
  · have := Rat.mul_le_mul_of_nonneg_left h hk
    rw [if_pos h, if_pos this]
  · have h2 : b ≤ a := by grind
    have := Rat.mul_le_mul_of_nonneg_left h2 hk
    rw [if_neg h]
    split
    · rename_i h3
      exact Rat.le_antisymm h3 this
    · rfl
theorem G_mul {k : Rat} (hk : 0 ≤ k) (u : α → Rat) : ∀ l : List α, G (l.map fun x => k * u x) = k * G (l.map u)
  | [] => by show (0 : Rat) = k * 0; grind
  | x :: l => by
    have ih := G_mul hk u l
    have h1 : qsum ((l.map fun x => k * u x).map (mn (k * u x))) = k * qsum ((l.map u).map (mn (u x))) := by
      rw [List.map_map, List.map_map, ← qsum_mapMul]
      congr 1
      refine List.map_congr_left fun y _ => ?_
      exact mn_mul hk
    show k * u x + qsum ((l.map fun x => k * u x).map (mn (k * u x))) + G (l.map fun x => k * u x) = k * (u x + qsum ((l.map u).map (mn (u x))) + G (l.map u))
    rw [h1, ih]
    grind
theorem G_zero (l : List α) : G (l.map fun _ => (0 : Rat)) = 0 := by
  have := G_mul (k := 0) (by decide) (fun _ : α => (0 : Rat)) l
  have e : (l.map fun _ : α => (0 : Rat) * 0) = l.map fun _ => (0 : Rat) := List.map_congr_left fun _ _ => by grind
  rw [e] at this
  grind
/-- the sum of many -/
theorem G_sum {β : Type} (V : β → α → Rat) (l : List α) : ∀ ys : List β, qsum (ys.map fun y => G (l.map (V y))) ≤ G (l.map fun x => qsum (ys.map fun y => V y x))
  | [] => by
    show (0 : Rat) ≤ G (l.map fun _ => (0 : Rat))
    rw [G_zero]
    exact Rat.le_refl
  | y :: ys => by
    have ih := G_sum V l ys
    have h := G_add (V y) (fun x => qsum (ys.map fun y => V y x)) l
    rw [List.map_cons, qsum_cons]
    show _ ≤ G (l.map fun x => V y x + qsum (ys.map fun y => V y x))
    grind
end
/-! ### the spread -/
abbrev Pl := List (List Rat × Rat)
def putQ (l : Pl) (r : List Rat) (s : Rat) : Pl := if (l.map (·.1)).contains r then l.map fun p => if p.1 = r then (p.1, p.2 + s) else p else l ++ [(r, s)]
def chn (w : List Rat) (c : List (List Rat)) (y : Nat) : Rat := qsum (colQ w c y)
def bhd (w : List Rat) (c : List (List Rat)) (y : Nat) : List Rat := (colQ w c y).map fun p => p / chn w c y
def spI (w : List Rat) (c : List (List Rat)) : Nat → Pl
  | 0 => []
  | y + 1 => if chn w c y = 0 then spI w c y else putQ (spI w c y) (bhd w c y) (chn w c y)
theorem putQ_keys {l : Pl} {r : List Rat} {s : Rat} (h : (l.map (·.1)).Nodup) : ((putQ l r s).map (·.1)).Nodup ∧ ∀ q, q ∈ (putQ l r s).map (·.1) ↔ q ∈ l.map (·.1) ∨ q = r := by
  unfold putQ
  split
  · rename_i c
    have c : r ∈ l.map (·.1) := by simpa using c
    have e : (l.map fun p => if p.1 = r then (p.1, p.2 + s) else p).map (·.1) = l.map (·.1) := by
      rw [List.map_map]
      refine List.map_congr_left fun p _ => ?_
      show (if p.1 = r then (p.1, p.2 + s) else p).1 = p.1
      split <;> rfl
    rw [e]
    exact ⟨h, fun q => ⟨.inl, fun h => h.elim id fun h => by rw [h]; exact c⟩⟩
  · rename_i c
    have c : r ∉ l.map (·.1) := by simpa using c
    rw [List.map_append]
    refine ⟨?_, fun q => by simp⟩
    rw [List.nodup_append]
    refine ⟨h, by simp, fun a ha b hb e => ?_⟩
    simp only [List.map_cons, List.map_nil, List.mem_singleton] at hb
    exact c (by rw [← hb, ← e]; exact ha)
theorem putQ_sum {r : List Rat} {s : Rat} (f : List Rat → Rat) : ∀ {l : Pl}, (l.map (·.1)).Nodup → qsum ((putQ l r s).map fun p => p.2 * f p.1) = qsum (l.map fun p => p.2 * f p.1) + s * f r := by
  have key : ∀ {l : Pl}, (l.map (·.1)).Nodup → r ∈ l.map (·.1) → qsum ((l.map fun p => if p.1 = r then (p.1, p.2 + s) else p).map fun p => p.2 * f p.1) = qsum (l.map fun p => p.2 * f p.1) + s * f r := by
    intro l
    induction l with
    | nil => intro _ h; cases h
    | cons p l ih =>
      intro hn hr
      rw [List.map_cons, List.nodup_cons] at hn
      rw [List.map_cons, List.map_cons, List.map_cons, qsum_cons, qsum_cons]
      by_cases e : p.1 = r
      · rw [if_pos e]
        have : (l.map fun p => if p.1 = r then (p.1, p.2 + s) else p) = l := by
          have hh : ∀ q ∈ l, (if q.1 = r then (q.1, q.2 + s) else q) = q := fun q hq => if_neg fun z => hn.1 (by rw [e, ← z]; exact List.mem_map.mpr ⟨q, hq, rfl⟩)
          rw [List.map_congr_left hh, List.map_id']
        rw [this]
        show (p.2 + s) * f p.1 + _ = _
        rw [e]
        grind
      · rw [if_neg e, ih hn.2 (by
          rw [List.map_cons, List.mem_cons] at hr
          exact hr.resolve_left fun h => e h.symm)]
        grind
  intro l hn
  unfold putQ
  split
  · rename_i c
    exact key hn (by simpa using c)
  · rw [List.map_append, List.map_cons, List.map_nil, qsum_snoc]
theorem putQ_fresh {l : Pl} {r : List Rat} {s : Rat} (h : r ∉ l.map (·.1)) : putQ l r s = l ++ [(r, s)] := by
  unfold putQ
  rw [if_neg (by simpa using h)]
theorem spI_nodup (w : List Rat) (c : List (List Rat)) : ∀ n, ((spI w c n).map (·.1)).Nodup
  | 0 => List.nodup_nil
  | n + 1 => by
    unfold spI
    split
    · exact spI_nodup w c n
    · exact (putQ_keys (spI_nodup w c n)).1
/-- each share is the sum of chances; each row is that behind a sign -/
theorem spI_mem {w : List Rat} {c : List (List Rat)} : ∀ {n : Nat} {p : List Rat × Rat}, p ∈ spI w c n → ∃ y, y < n ∧ chn w c y ≠ 0 ∧ p.1 = bhd w c y
  | 0, _, h => by cases h
  | n + 1, p, h => by
    unfold spI at h
    split at h
    · obtain ⟨y, h1, h2⟩ := spI_mem h
      exact ⟨y, by omega, h2⟩
    · rename_i hc
      have := (putQ_keys (r := bhd w c n) (s := chn w c n) (spI_nodup w c n)).2 p.1
      rcases this.mp (List.mem_map.mpr ⟨p, h, rfl⟩) with h1 | h1
      · obtain ⟨q, hq, e⟩ := List.mem_map.mp h1
        obtain ⟨y, h2, h3, h4⟩ := spI_mem hq
        exact ⟨y, by omega, h3, e.symm.trans h4⟩
      · exact ⟨n, by omega, hc, h1⟩
theorem spI_sum {w : List Rat} {c : List (List Rat)} (f : List Rat → Rat) : ∀ n, qsum ((spI w c n).map fun p => p.2 * f p.1) = qsum (((List.range n).filter fun y => decide (chn w c y ≠ 0)).map fun y => chn w c y * f (bhd w c y))
  | 0 => rfl
  | n + 1 => by
    have ih := spI_sum (w := w) (c := c) f n
    unfold spI
    rw [List.range_succ, List.filter_append, List.map_append]
    split
    · rename_i hc
      rw [ih, List.filter_cons, if_neg (by simpa using hc)]
      simp
    · rename_i hc
      rw [putQ_sum f (spI_nodup w c n), ih, List.filter_cons, if_pos (by simpa using hc)]
      simp only [List.filter_nil, List.map_cons, List.map_nil]
      rw [qsum_snoc]
/-- a share: the sum of the chances of some signs -/
def Part (w : List Rat) (c : List (List Rat)) (n : Nat) (s : Rat) : Prop := ∃ ys : List Nat, s = qsum (ys.map (chn w c)) ∧ ys.length ≤ n ∧ (∀ y ∈ ys, y < n ∧ chn w c y ≠ 0) ∧ ys ≠ []
theorem Part.up {w : List Rat} {c : List (List Rat)} {n : Nat} {s : Rat} (h : Part w c n s) : Part w c (n + 1) s := by
  obtain ⟨ys, h1, h2, h3, h4⟩ := h
  exact ⟨ys, h1, by omega, fun y hy => ⟨by have := h3 y hy; omega, (h3 y hy).2⟩, h4⟩
theorem spI_part {w : List Rat} {c : List (List Rat)} : ∀ {n : Nat} {p : List Rat × Rat}, p ∈ spI w c n → Part w c n p.2
  | 0, _, h => by cases h
  | n + 1, p, h => by
    unfold spI at h
    split at h
    · exact (spI_part h).up
    · rename_i hc
      unfold putQ at h
      split at h
      · obtain ⟨q, hq, e⟩ := List.mem_map.mp h
        have hp := spI_part hq
        split at e
        · rw [← e]
          obtain ⟨ys, h1, h2, h3, h4⟩ := hp
          refine ⟨ys ++ [n], ?_, by simp; omega, fun y hy => ?_, by simp⟩
          · rw [List.map_append, List.map_cons, List.map_nil, qsum_snoc, ← h1]
          · rcases List.mem_append.mp hy with hy | hy
            · exact ⟨by have := h3 y hy; omega, (h3 y hy).2⟩
            · rw [List.mem_singleton.mp hy]
              exact ⟨by omega, hc⟩
        · rw [← e]
          exact hp.up
      · rcases List.mem_append.mp h with h | h
        · exact (spI_part h).up
        · rw [List.mem_singleton.mp h]
          exact ⟨[n], by simp [qsum]; grind, by simp, fun y hy => by rw [List.mem_singleton.mp hy]; exact ⟨by omega, hc⟩, by simp⟩
end DL

set_option Elab.async false
set_option linter.all false
set_option maxRecDepth 100000
set_option maxHeartbeats 4000000
namespace DL
open PySem PySem.Spec PyProof.Rows L2
/-! ### sorting the rows of a plan -/
def pD (p : List Rat × Rat) : D := .tuple [rowQ p.1, qD p.2]
def plD (pl : Pl) : D := .tuple (pl.map pD)
def srtP (pl : Pl) : Pl := pl.mergeSort fun a b => ltD (pD a) (pD b)
theorem sortD_pl (pl : Pl) : sortD (pl.map pD) = (srtP pl).map pD := (PySem.W.sort_maps (r := fun a b => ltD (pD a) (pD b)) (s := ltD) (l := pl) pD fun _ _ _ _ => rfl).symm
theorem srtP_perm (pl : Pl) : (srtP pl).Perm pl := List.mergeSort_perm _ _
theorem srtP_srtP (pl : Pl) : srtP (srtP pl) = srtP pl := by
  have t : PySem.W.TotalLe (fun a b : List Rat × Rat => ltD (pD a) (pD b)) := PySem.W.sortLe_total (PyProof.Rows.listOrd itemOrd) false fun p => PySem.W.keyToks (pD p)
  exact List.mergeSort_of_pairwise (PySem.W.sort_pairwise t pl)
theorem alike_qs : ∀ xs ys : List Rat, PySem.W.alikeAll (xs.map qD) (ys.map qD) = true
  | [], _ => by simp [PySem.W.alikeAll]
  | _ :: _, [] => by simp [PySem.W.alikeAll]
  | x :: xs, y :: ys => by
    rw [List.map_cons, List.map_cons, PySem.W.alikeAll, alike_qs xs ys]
    simp [PySem.W.alike, qD, PySem.W.alikeAll]
theorem depth_qs : ∀ xs : List Rat, PyData.depthAll (xs.map qD) ≤ 1
  | [] => by simp [PyData.depthAll]
  | x :: xs => by
    have := depth_qs xs
    simp only [List.map_cons, PyData.depthAll, qD, PyData.depth]
    omega
theorem sortOk_pl {pl : Pl} (hl : pl.length ≤ sizeLine) : sortOk (pl.map pD) := by
  refine ⟨PySem.W.AllAlike.of fun a b => ?_, PySem.W.Sortable.tuples fun b => ⟨_, _, rfl⟩, by rw [List.length_map]; exact hl, fun d hd => ?_⟩
  · simp only [pD, PySem.W.alike, PySem.W.alikeAll, rowQ, alike_qs, qD]
    simp
  · obtain ⟨p, _, rfl⟩ := List.mem_map.mp hd
    have := depth_qs p.1
    simp only [pD, PyData.depth, PyData.depthAll, rowQ, qD]
    omega
theorem plD_td (pl : Pl) : plD pl = Td.d (⟨pl.map fun p => ((⟨p.1⟩ : Tu Rat), p.2)⟩ : Tu (Tu Rat × Rat)) := by
  show PyData.tuple _ = PyData.tuple (List.map Td.d _)
  rw [List.map_map]
  rfl
theorem dNePl_same {pl : Pl} {Q : D → Prop} (h : Q (.bool false)) : dNe (plD pl) (plD pl) Q := by
  rw [plD_td]
  exact dNeT (by rw [decide_eq_true rfl]; exact h)
/-! ### sizes -/
/-! ### columns -/
theorem col_ix {w : List Rat} {c : List (List Rat)} {m : Nat} (hw : w.length = m) (hc : c.length = m) (y : Nat) : colQ w c y = (List.range m).map fun x => w.getD x 0 * (c.getD x []).getD y 0 := by
  unfold colQ
  refine List.ext_getElem (by simp [hw, hc]) fun i h1 h2 => ?_
  have hi : i < m := by simpa using h2
  have e1 : w.getD i 0 = w[i]'(by omega) := by rw [List.getD_eq_getElem?_getD, List.getElem?_eq_getElem (show i < w.length by omega)]; rfl
  have e2 : c.getD i [] = c[i]'(by omega) := by rw [List.getD_eq_getElem?_getD, List.getElem?_eq_getElem (show i < c.length by omega)]; rfl
  rw [List.getElem_zipWith, List.getElem_map, List.getElem_range, e1, e2]
theorem qsum_ix (l : List Rat) : qsum l = qsum ((List.range l.length).map fun x => l.getD x 0) := by
  congr 1
  refine List.ext_getElem (by simp) fun i h1 h2 => ?_
  rw [List.getElem_map, List.getElem_range, List.getD_eq_getElem?_getD, List.getElem?_eq_getElem h1]
  rfl
theorem list_ix (l : List Rat) : l = (List.range l.length).map fun x => l.getD x 0 := by
  refine List.ext_getElem (by simp) fun i h1 h2 => ?_
  rw [List.getElem_map, List.getElem_range, List.getD_eq_getElem?_getD, List.getElem?_eq_getElem h1]
  rfl
theorem qsum_nn {l : List Rat} (h : ∀ x ∈ l, 0 ≤ x) : 0 ≤ qsum l := by
  induction l with
  | nil => exact Rat.le_refl
  | cons x l ih =>
    have h1 := h x List.mem_cons_self
    have h2 := ih fun y hy => h y (List.mem_cons_of_mem _ hy)
    rw [qsum_cons]
    grind
theorem qsum_all0 {l : List Rat} (h : ∀ x ∈ l, 0 ≤ x) (h0 : qsum l = 0) : ∀ x ∈ l, x = 0 := by
  induction l with
  | nil => nofun
  | cons x l ih =>
    have h1 := h x List.mem_cons_self
    have h2 := qsum_nn fun y hy => h y (List.mem_cons_of_mem _ hy)
    rw [qsum_cons] at h0
    intro y hy
    rcases List.mem_cons.mp hy with rfl | hy
    · grind
    · exact ih (fun z hz => h z (List.mem_cons_of_mem _ hz)) (by grind) y hy
theorem qsum_divR (k : Rat) (l : List Rat) : qsum (l.map fun p => p / k) = qsum l / k := by
  have : (l.map fun p => p / k) = l.map fun p => k⁻¹ * p := List.map_congr_left fun p _ => by rw [Rat.div_def, Rat.mul_comm]
  rw [this, qsum_mapMul, List.map_id', Rat.div_def, Rat.mul_comm]
/-! ### a prior and a channel -/
structure PC (m n : Nat) (w : List Rat) (c : List (List Rat)) : Prop where
  m1 : 1 ≤ m
  m4 : m ≤ 4
  n1 : 1 ≤ n
  n4 : n ≤ 4
  lw : w.length = m
  pw : ∀ x ∈ w, 0 ≤ x
  sw : ∀ x ∈ w, Sz 7 x
  one : qsum w = 1
  ch : ChC m n c
def wx (w : List Rat) (x : Nat) : Rat := w.getD x 0
section
variable {m n : Nat} {w : List Rat} {c : List (List Rat)}
theorem PC.row (h : PC m n w c) {x : Nat} (hx : x < m) : ChR n (c.getD x []) := h.ch.row _ (getD_mem _ (by rw [h.ch.len]; exact hx))
theorem PC.wnn (h : PC m n w c) {x : Nat} (hx : x < m) : 0 ≤ wx w x := h.pw _ (getD_mem _ (by rw [h.lw]; exact hx))
theorem PC.cnn (h : PC m n w c) {x y : Nat} (hx : x < m) (hy : y < n) : 0 ≤ (c.getD x []).getD y 0 := (h.row hx).pos _ (getD_mem _ (by rw [(h.row hx).len]; exact hy))
theorem PC.col (h : PC m n w c) (y : Nat) : colQ w c y = (List.range m).map fun x => wx w x * (c.getD x []).getD y 0 := col_ix h.lw h.ch.len y
theorem PC.colnn (h : PC m n w c) {y : Nat} (hy : y < n) : ∀ v ∈ colQ w c y, 0 ≤ v := fun v hv => by
  rw [h.col] at hv
  obtain ⟨x, hx, rfl⟩ := List.mem_map.mp hv
  have hx := List.mem_range.mp hx
  exact Rat.mul_nonneg (h.wnn hx) (h.cnn hx hy)
theorem PC.ok (h : PC m n w c) {y : Nat} (hy : y < n) : ColOk 7 7 w c y := ⟨h.sw, fun r hr => (h.ch.row r hr).sz, fun r hr => by rw [(h.ch.row r hr).len]; exact hy, by have := h.lw; have := h.m4; omega, by decide⟩
theorem PC.sums (h : PC m n w c) {y : Nat} (hy : y < n) : Sums 75 (colQ w c y) := sums_le (L := 4) (n := 14) (by rw [col_len (by rw [h.lw, h.ch.len]), h.lw]; exact h.m4) fun x hx => col_sz (h.ok hy) x hx
theorem PC.chsz (h : PC m n w c) {y : Nat} (hy : y < n) : Sz 75 (chn w c y) := (h.sums hy).all
theorem bhd_at (h : PC m n w c) (y : Nat) {x : Nat} (hx : x < m) : (bhd w c y).getD x 0 = wx w x * (c.getD x []).getD y 0 / chn w c y := by
  unfold bhd
  rw [h.col, List.map_map, List.getD_eq_getElem?_getD, List.getElem?_map, List.getElem?_range hx]
  rfl
theorem bhd_len (h : PC m n w c) (y : Nat) : (bhd w c y).length = m := by
  unfold bhd
  rw [List.length_map, h.col, List.length_map, List.length_range]
theorem bhd_sum {y : Nat} (hc : chn w c y ≠ 0) : qsum (bhd w c y) = 1 := by
  unfold bhd
  rw [qsum_divR]
  show chn w c y / chn w c y = 1
  rw [Rat.div_def, Rat.mul_inv_cancel _ hc]
theorem bhd_sz (h : PC m n w c) {y : Nat} (hy : y < n) (hc : chn w c y ≠ 0) : ∀ x ∈ bhd w c y, Sz 89 x := fun x hx => by
  obtain ⟨p, hp, rfl⟩ := List.mem_map.mp hx
  exact (col_sz (h.ok hy) p hp).div (h.chsz hy) hc (by decide)
/-- a plan: rows and shares -/
structure PlOk (m : Nat) (pl : Pl) : Prop where
  len : pl.length ≤ 4
  rl : ∀ p ∈ pl, p.1.length = m
  rs : ∀ p ∈ pl, ∀ x ∈ p.1, Sz 89 x
  ss : ∀ p ∈ pl, Sz 380 p.2
theorem spI_length (w : List Rat) (c : List (List Rat)) : ∀ n, (spI w c n).length ≤ n
  | 0 => Nat.le_refl _
  | n + 1 => by
    have ih := spI_length w c n
    unfold spI
    split
    · omega
    · unfold putQ
      split
      · rw [List.length_map]; omega
      · rw [List.length_append]
        simp only [List.length_cons, List.length_nil]
        omega
theorem part_sz {C : Nat} (hn : n ≤ 4) (hc : ∀ y, y < n → Sz C (chn w c y)) {s : Rat} (h : Part w c n s) : Sz (sumSz 4 C) s := by
  obtain ⟨ys, rfl, h2, h3, _⟩ := h
  refine (sums_le (L := 4) (n := C) (by rw [List.length_map]; omega) fun x hx => ?_).all
  obtain ⟨y, hy, rfl⟩ := List.mem_map.mp hx
  exact hc y (h3 y hy).1
theorem PC.plan (h : PC m n w c) : PlOk m (srtP (spI w c n)) := by
  have mem : ∀ p, p ∈ srtP (spI w c n) → p ∈ spI w c n := fun p hp => (srtP_perm _).mem_iff.mp hp
  refine ⟨?_, fun p hp => ?_, fun p hp => ?_, fun p hp => ?_⟩
  · rw [(srtP_perm _).length_eq]
    exact Nat.le_trans (spI_length w c n) h.n4
  · obtain ⟨y, _, _, e⟩ := spI_mem (mem p hp)
    rw [e]
    exact bhd_len h y
  · obtain ⟨y, hy, hc, e⟩ := spI_mem (mem p hp)
    rw [e]
    exact bhd_sz h hy hc
  · exact part_sz h.n4 (fun y hy => h.chsz hy) (spI_part (mem p hp))
/-- what the plan of a channel has -/
structure Pl1 (m : Nat) (w : List Rat) (pl : Pl) : Prop extends PlOk m pl where
  nd : (pl.map (·.1)).Nodup
  one : ∀ p ∈ pl, qsum p.1 = 1
  nz : ∀ p ∈ pl, p.2 ≠ 0
  up : ∀ x, x < m → qsum (pl.map fun p => p.2 * p.1.getD x 0) = wx w x
  z : ∀ x, x < m → wx w x = 0 → ∀ p ∈ pl, p.1.getD x 0 = 0
  ne : pl ≠ []
  srt : srtP pl = pl
theorem filter_sum {α : Type} (f : α → Rat) (q : α → Bool) : ∀ l : List α, (∀ x ∈ l, q x = false → f x = 0) → qsum ((l.filter q).map f) = qsum (l.map f)
  | [], _ => rfl
  | x :: l, h => by
    have ih := filter_sum f q l fun y hy => h y (List.mem_cons_of_mem _ hy)
    rw [List.filter_cons]
    cases hq : q x with
    | true =>
      rw [if_pos rfl, List.map_cons, List.map_cons, qsum_cons, qsum_cons, ih]
    | false =>
      rw [if_neg Bool.false_ne_true, List.map_cons, qsum_cons, ih, h x List.mem_cons_self hq]
      grind
theorem PC.pl1 (h : PC m n w c) : Pl1 m w (srtP (spI w c n)) := by
  have pm := srtP_perm (spI w c n)
  have mem : ∀ p, p ∈ srtP (spI w c n) → p ∈ spI w c n := fun p hp => pm.mem_iff.mp hp
  have chnn : ∀ y, y < n → 0 ≤ chn w c y := fun y hy => qsum_nn (h.colnn hy)
  have up : ∀ x, x < m → qsum ((srtP (spI w c n)).map fun p => p.2 * p.1.getD x 0) = wx w x := fun x hx => by
    rw [qsum_permA (pm.map _), spI_sum (fun r => r.getD x 0)]
    have e1 : ∀ y ∈ (List.range n).filter (fun y => decide (chn w c y ≠ 0)), chn w c y * (bhd w c y).getD x 0 = wx w x * (c.getD x []).getD y 0 := fun y hy => by
      have hc := of_decide_eq_true (List.mem_filter.mp hy).2
      rw [bhd_at h y hx, Rat.div_def, Rat.mul_comm, Rat.mul_assoc, Rat.inv_mul_cancel _ hc, Rat.mul_one]
    rw [List.map_congr_left e1, filter_sum]
    · rw [qsum_mapMul]
      have e2 := (h.row hx).sum
      rw [qsum_ix, (h.row hx).len] at e2
      rw [e2, Rat.mul_one]
    · intro y hy hq
      have hy := List.mem_range.mp hy
      have hc : chn w c y = 0 := by simpa using hq
      refine qsum_all0 (h.colnn hy) hc _ ?_
      rw [h.col]
      exact List.mem_map.mpr ⟨x, List.mem_range.mpr hx, rfl⟩
  refine ⟨h.plan, ?_, fun p hp => ?_, fun p hp => ?_, up, fun x hx hz p hp => ?_, fun e => ?_, srtP_srtP _⟩
  · exact (pm.map _).nodup_iff.mpr (spI_nodup w c n)
  · obtain ⟨y, _, hc, e⟩ := spI_mem (mem p hp)
    rw [e]
    exact bhd_sum hc
  · obtain ⟨ys, e, _, h3, hne⟩ := spI_part (mem p hp)
    intro hz
    rw [e] at hz
    cases ys with
    | nil => exact hne rfl
    | cons y ys =>
      have := qsum_all0 (l := (y :: ys).map (chn w c)) (fun v hv => by
        obtain ⟨u, hu, rfl⟩ := List.mem_map.mp hv
        exact chnn u (h3 u hu).1) hz (chn w c y) (List.mem_map.mpr ⟨y, List.mem_cons_self, rfl⟩)
      exact (h3 y List.mem_cons_self).2 this
  · obtain ⟨y, _, _, e⟩ := spI_mem (mem p hp)
    rw [e, bhd_at h y hx, hz, Rat.zero_mul, Rat.div_def, Rat.zero_mul]
  · have : ∀ x, x < m → wx w x = 0 := fun x hx => by
      have := up x hx
      rw [e] at this
      exact this.symm
    have h1 := h.one
    have e0 : ((List.range m).map fun x => w.getD x 0) = (List.range m).map fun _ => (0 : Rat) := List.map_congr_left fun x hx => this x (List.mem_range.mp hx)
    rw [qsum_ix, h.lw, e0, qsum_zero] at h1
    exact absurd h1 (by decide)
/-! ### the channel of a plan -/
def mkM (w : List Rat) (pl : Pl) (x : Nat) : List Rat := if wx w x = 0 then pl.map (·.2) else pl.map fun p => p.2 * p.1.getD x 0 / wx w x
def made (m : Nat) (w : List Rat) (pl : Pl) : List (List Rat) := (List.range m).map (mkM w pl)
theorem mkM_len (w : List Rat) (pl : Pl) (x : Nat) : (mkM w pl x).length = pl.length := by
  unfold mkM
  split <;> rw [List.length_map]
theorem made_at {pl : Pl} {x : Nat} (hx : x < m) : (made m w pl).getD x [] = mkM w pl x := by
  unfold made
  rw [List.getD_eq_getElem?_getD, List.getElem?_map, List.getElem?_range hx]
  rfl
theorem made_len (pl : Pl) : (made m w pl).length = m := by
  unfold made
  rw [List.length_map, List.length_range]
theorem made_col {pl : Pl} (h : Pl1 m w pl) (lw : w.length = m) {k : Nat} (hk : k < pl.length) : colQ w (made m w pl) k = (pl[k].1).map fun v => pl[k].2 * v := by
  rw [col_ix lw (made_len pl)]
  have hr := h.rl pl[k] (List.getElem_mem hk)
  conv => rhs; rw [list_ix pl[k].1, hr, List.map_map]
  refine List.map_congr_left fun x hx => ?_
  have hx := List.mem_range.mp hx
  rw [made_at hx]
  show wx w x * (mkM w pl x).getD k 0 = pl[k].2 * pl[k].1.getD x 0
  unfold mkM
  split
  · rename_i hz
    rw [hz, h.z x hx hz _ (List.getElem_mem hk)]
    grind
  · rename_i hz
    rw [List.getD_eq_getElem?_getD, List.getElem?_map, List.getElem?_eq_getElem hk]
    show wx w x * (pl[k].2 * pl[k].1.getD x 0 / wx w x) = _
    rw [Rat.mul_comm, Rat.div_mul_cancel hz]
theorem made_ch {pl : Pl} (h : Pl1 m w pl) (lw : w.length = m) {k : Nat} (hk : k < pl.length) : chn w (made m w pl) k = pl[k].2 := by
  unfold chn
  rw [made_col h lw hk, qsum_mapMul, List.map_id', h.one _ (List.getElem_mem hk), Rat.mul_one]
theorem made_bh {pl : Pl} (h : Pl1 m w pl) (lw : w.length = m) {k : Nat} (hk : k < pl.length) : bhd w (made m w pl) k = pl[k].1 := by
  unfold bhd
  rw [made_ch h lw hk, made_col h lw hk, List.map_map]
  have hz := h.nz _ (List.getElem_mem hk)
  rw [List.map_congr_left (g := id) fun v _ => ?_, List.map_id]
  show pl[k].2 * v / pl[k].2 = v
  rw [Rat.mul_comm, Rat.mul_div_cancel hz]
theorem made_sp {pl : Pl} (h : Pl1 m w pl) (lw : w.length = m) : ∀ k, k ≤ pl.length → spI w (made m w pl) k = pl.take k
  | 0, _ => by rw [List.take_zero]; rfl
  | k + 1, hk => by
    have ih := made_sp h lw k (by omega)
    have hk' : k < pl.length := by omega
    unfold spI
    rw [made_ch h lw hk', if_neg (h.nz _ (List.getElem_mem hk')), ih, made_bh h lw hk', putQ_fresh, List.take_succ_eq_append_getElem hk']
    have hn := h.nd
    rw [← List.take_append_drop k pl, List.map_append, List.nodup_append] at hn
    intro hm
    refine hn.2.2 _ hm _ (List.mem_map.mpr ⟨pl[k], ?_, rfl⟩) rfl
    rw [List.drop_eq_getElem_cons hk']
    exact List.mem_cons_self
theorem made_spread {pl : Pl} (h : Pl1 m w pl) (lw : w.length = m) : srtP (spI w (made m w pl) pl.length) = pl := by
  rw [made_sp h lw _ (Nat.le_refl _), List.take_length, h.srt]
theorem made_sz {pl : Pl} (h : PlOk m pl) (sw : ∀ x ∈ w, Sz 7 x) (lw : w.length = m) : ∀ r ∈ made m w pl, ∀ v ∈ r, Sz 476 v := fun r hr v hv => by
  obtain ⟨x, hx, rfl⟩ := List.mem_map.mp hr
  have hx := List.mem_range.mp hx
  unfold mkM at hv
  split at hv
  · obtain ⟨p, hp, rfl⟩ := List.mem_map.mp hv
    exact (h.ss p hp).mono (by decide)
  · rename_i hz
    obtain ⟨p, hp, rfl⟩ := List.mem_map.mp hv
    exact ((h.ss p hp).mul (h.rs p hp _ (getD_mem 0 (by rw [h.rl p hp]; exact hx))) (Nat.le_refl _)).div (sw _ (getD_mem 0 (by rw [lw]; exact hx))) hz (by decide)
/-! ### guessing on behind signs -/
theorem need_ge (h : PC m n w c) : qsum ((List.range n).map fun y => G (colQ w c y)) ≤ G w := by
  have h1 := G_sum (fun y x => wx w x * (c.getD x []).getD y 0) (List.range m) (List.range n)
  have e1 : ((List.range n).map fun y => G (colQ w c y)) = (List.range n).map fun y => G ((List.range m).map fun x => wx w x * (c.getD x []).getD y 0) := List.map_congr_left fun y _ => by rw [h.col]
  have e2 : w = (List.range m).map fun x => qsum ((List.range n).map fun y => wx w x * (c.getD x []).getD y 0) := by
    conv => lhs; rw [list_ix w, h.lw]
    refine List.map_congr_left fun x hx => ?_
    have e2 := (h.row (List.mem_range.mp hx)).sum
    rw [qsum_ix, (h.row (List.mem_range.mp hx)).len] at e2
    rw [qsum_mapMul, e2, Rat.mul_one]
    rfl
  rw [e1]
  rw [e2]
  have e3 : ∀ x, wx ((List.range m).map fun x => qsum ((List.range n).map fun y => wx w x * (c.getD x []).getD y 0)) x = wx w x := fun x => by rw [← e2]
  simp only [e3]
  exact h1
def casc (c R : List (List Rat)) (k : Nat) : List (List Rat) := c.map fun r => (List.range k).map fun z => qsum (r.zipWith (fun p (q : List Rat) => p * q.getD z 0) R)
theorem casc_ge {R : List (List Rat)} {k : Nat} (h : PC m n w c) (hR : ChC n k R) : qsum ((List.range n).map fun y => G (colQ w c y)) ≤ qsum ((List.range k).map fun z => G (colQ w (casc c R k) z)) := by
  have rr : ∀ y, y < n → ChR k (R.getD y []) := fun y hy => hR.row _ (getD_mem _ (by rw [hR.len]; exact hy))
  have rnn : ∀ y z, y < n → z < k → 0 ≤ (R.getD y []).getD z 0 := fun y z hy hz => (rr y hy).pos _ (getD_mem _ (by rw [(rr y hy).len]; exact hz))
  -- column z of the cascade
  have cz : ∀ z, z < k → colQ w (casc c R k) z = (List.range m).map fun x => qsum ((List.range n).map fun y => (R.getD y []).getD z 0 * (wx w x * (c.getD x []).getD y 0)) := fun z hz => by
    rw [col_ix h.lw (by unfold casc; rw [List.length_map]; exact h.ch.len)]
    refine List.map_congr_left fun x hx => ?_
    have hx := List.mem_range.mp hx
    have e1 : (casc c R k).getD x [] = (List.range k).map fun z => qsum ((c.getD x []).zipWith (fun p (q : List Rat) => p * q.getD z 0) R) := by
      unfold casc
      rw [List.getD_eq_getElem?_getD, List.getElem?_map, List.getD_eq_getElem?_getD, List.getElem?_eq_getElem (by rw [h.ch.len]; exact hx)]
      rfl
    have e2 : ((List.range k).map fun z => qsum ((c.getD x []).zipWith (fun p (q : List Rat) => p * q.getD z 0) R)).getD z 0 = qsum ((c.getD x []).zipWith (fun p (q : List Rat) => p * q.getD z 0) R) := by
      rw [List.getD_eq_getElem?_getD, List.getElem?_map, List.getElem?_range hz]
      rfl
    have e3 : (c.getD x []).zipWith (fun p (q : List Rat) => p * q.getD z 0) R = (List.range n).map fun y => (c.getD x []).getD y 0 * (R.getD y []).getD z 0 := col_ix (h.row hx).len hR.len z
    rw [e1, e2, e3]
    show wx w x * _ = _
    rw [← qsum_mapMul]
    congr 1
    refine List.map_congr_left fun y _ => ?_
    grind
  have e1 : ((List.range k).map fun z => G (colQ w (casc c R k) z)) = (List.range k).map fun z => G ((List.range m).map fun x => qsum ((List.range n).map fun y => (R.getD y []).getD z 0 * (wx w x * (c.getD x []).getD y 0))) :=
    List.map_congr_left fun z hz => by rw [cz z (List.mem_range.mp hz)]
  rw [e1]
  have step : ∀ z, z < k → qsum ((List.range n).map fun y => (R.getD y []).getD z 0 * G (colQ w c y)) ≤ G ((List.range m).map fun x => qsum ((List.range n).map fun y => (R.getD y []).getD z 0 * (wx w x * (c.getD x []).getD y 0))) := fun z hz => by
    have h1 := G_sum (fun y x => (R.getD y []).getD z 0 * (wx w x * (c.getD x []).getD y 0)) (List.range m) (List.range n)
    have e2 : ((List.range n).map fun y => G ((List.range m).map fun x => (R.getD y []).getD z 0 * (wx w x * (c.getD x []).getD y 0))) = (List.range n).map fun y => (R.getD y []).getD z 0 * G (colQ w c y) :=
      List.map_congr_left fun y hy => by rw [G_mul (rnn y z (List.mem_range.mp hy) hz), h.col]
    rw [e2] at h1
    exact h1
  have tot : qsum ((List.range k).map fun z => qsum ((List.range n).map fun y => (R.getD y []).getD z 0 * G (colQ w c y))) = qsum ((List.range n).map fun y => G (colQ w c y)) := by
    rw [qsum_swap]
    congr 1
    refine List.map_congr_left fun y hy => ?_
    have hy := List.mem_range.mp hy
    have e2 : ((List.range k).map fun z => (R.getD y []).getD z 0 * G (colQ w c y)) = (List.range k).map fun z => G (colQ w c y) * (R.getD y []).getD z 0 := List.map_congr_left fun z _ => Rat.mul_comm _ _
    have e3 := (rr y hy).sum
    rw [qsum_ix, (rr y hy).len] at e3
    rw [e2, qsum_mapMul, e3, Rat.mul_one]
  rw [← tot]
  exact qsum_mapLe fun z hz => step z (List.mem_range.mp hz)
end
end DL

set_option Elab.async false
set_option linter.all false
set_option maxRecDepth 100000
set_option maxHeartbeats 4000000
namespace DL
open PySem PySem.Spec PyProof.Rows L2
/-! ### the dict of a spread -/
def eP (p : List Rat × Rat) : NK × D := (nkR p.1, qD p.2)
def getQ (l : Pl) (r : List Rat) : Rat := ((l.find? fun p => decide (p.1 = r)).map (·.2)).getD 0
theorem look_eP (r : List Rat) : ∀ l : Pl, lookV (l.map eP) (nkR r) = ((l.find? fun p => decide (p.1 = r)).map (·.2)).map qD
  | [] => rfl
  | p :: l => by
    have ih := look_eP r l
    unfold lookV at ih ⊢
    rw [List.map_cons, List.find?_cons, List.find?_cons]
    by_cases e : p.1 = r
    · have e2 : (eP p).1 = nkR r := by show nkR p.1 = nkR r; rw [e]
      rw [decide_eq_true e, decide_eq_true e2]
      rfl
    · have e2 : ¬ (eP p).1 = nkR r := fun h => e (nkR_inj h)
      rw [decide_eq_false e, decide_eq_false e2]
      exact ih
theorem get_mem {l : Pl} {r : List Rat} : getQ l r = 0 ∨ ∃ p ∈ l, p.2 = getQ l r := by
  unfold getQ
  cases h : l.find? fun p => decide (p.1 = r) with
  | none => exact .inl rfl
  | some p => exact .inr ⟨p, List.mem_of_find?_eq_some h, rfl⟩
theorem get_of {l : Pl} {r : List Rat} : ∀ {l : Pl}, (l.map (·.1)).Nodup → ∀ p ∈ l, p.1 = r → p.2 = getQ l r
  | q :: l, hn, p, hp, e => by
    rw [List.map_cons, List.nodup_cons] at hn
    unfold getQ
    rw [List.find?_cons]
    by_cases eq : q.1 = r
    · rw [decide_eq_true eq]
      rcases List.mem_cons.mp hp with h | h
      · rw [h]
        rfl
      · have hm : p.1 ∈ l.map (·.1) := List.mem_map.mpr ⟨p, h, rfl⟩
        rw [e, ← eq] at hm
        exact absurd hm hn.1
    · rw [decide_eq_false eq]
      rcases List.mem_cons.mp hp with h | h
      · exact absurd (by rw [← h]; exact e) eq
      · exact get_of (l := l) hn.2 p h e
theorem dict_step {l : Pl} {r : List Rat} {s : Rat} (hn : (l.map (·.1)).Nodup) : (lookV (l.map eP) (nkR r)).getD (qD 0) = qD (getQ l r) ∧ putV (l.map eP) (nkR r) (qD (getQ l r + s)) = (putQ l r s).map eP := by
  have hl := look_eP r l
  refine ⟨?_, ?_⟩
  · rw [hl]
    unfold getQ
    cases l.find? fun p => decide (p.1 = r) <;> rfl
  · unfold putV putQ
    rw [hl]
    by_cases c : r ∈ l.map (·.1)
    · have hs : ∃ p, (l.find? fun p => decide (p.1 = r)) = some p := by
        obtain ⟨p, hp, e⟩ := List.mem_map.mp c
        cases h : l.find? fun p => decide (p.1 = r) with
        | none => exact absurd e (by simpa using List.find?_eq_none.mp h p hp)
        | some p => exact ⟨p, rfl⟩
      obtain ⟨p, hp⟩ := hs
      rw [hp, if_pos (by rfl), if_pos (by simpa using c), List.map_map, List.map_map]
      refine List.map_congr_left fun q hq => ?_
      show (if nkR q.1 = nkR r then (nkR q.1, qD (getQ l r + s)) else eP q) = eP (if q.1 = r then (q.1, q.2 + s) else q)
      by_cases e : q.1 = r
      · rw [if_pos (by rw [e]), if_pos e, get_of (l := l) hn q hq e]
        rfl
      · rw [if_neg fun h => e (nkR_inj h), if_neg e]
    · have hs : (l.find? fun p => decide (p.1 = r)) = none := by
        rw [List.find?_eq_none]
        intro p hp h
        exact c (List.mem_map.mpr ⟨p, hp, of_decide_eq_true h⟩)
      have h0 : getQ l r = 0 := by
        unfold getQ
        rw [hs]
        rfl
      rw [hs, if_neg (by simp), if_neg (by simpa using c), List.map_append, h0, Rat.zero_add]
      rfl
theorem view_eP (l : Pl) : viewD true (l.map eP) = l.map pD := by
  unfold viewD
  rw [if_pos rfl, List.map_map]
  refine List.map_congr_left fun p _ => ?_
  show PyData.tuple [(nkR p.1).data, qD p.2] = _
  rw [nkR_data]
  rfl
/-! ### the promises -/
structure SpOk (n s t A C : Nat) (w : List Rat) (c : List (List Rat)) : Prop where
  ne : c ≠ []
  rl : ∀ r ∈ c, r.length = n
  n4 : n ≤ 4
  ok : ∀ y, y < n → ColOk s t w c y
  su : ∀ y, y < n → Sums A (colQ w c y)
  cs : ∀ y, y < n → Sz C (chn w c y)
  b1 : s + t + A < 8000
  b2 : A < 3990
  b3 : sumSz 4 C + C < 8000
def φ_chance_of : Phi := fun as P _ => ∃ (w : List Rat) (c : List (List Rat)) (y s t A : Nat), as = [.fz (rowQ w), .fz (chQ c), .fz (.int y)] ∧ ColOk s t w c y ∧ Sums A (colQ w c y) ∧ A < 3990 ∧ P (qD (chn w c y))
def φ_behind : Phi := fun as P _ => ∃ (w : List Rat) (c : List (List Rat)) (y s t A : Nat), as = [.fz (rowQ w), .fz (chQ c), .fz (.int y)] ∧ ColOk s t w c y ∧ Sums A (colQ w c y) ∧ A < 3990 ∧ s + t + A < 8000 ∧ chn w c y ≠ 0 ∧ P (rowQ (bhd w c y))
def φ_spread : Phi := fun as P _ => ∃ (w : List Rat) (c : List (List Rat)) (n s t A C : Nat), as = [.fz (rowQ w), .fz (chQ c)] ∧ SpOk n s t A C w c ∧ P (plD (srtP (spI w c n)))
def addsB (m : Nat) (w : List Rat) (pl : Pl) : Bool := (List.range m).all fun x => decide (qsum (pl.map fun p => p.2 * p.1.getD x 0) = wx w x)
structure CsOk (m : Nat) (w : List Rat) (pl : Pl) : Prop where
  m4 : m ≤ 4
  lw : w.length = m
  sw : ∀ x ∈ w, Sz 7 x
  pl : PlOk m pl
def φ_channel_of_spread : Phi := fun as P PE => ∃ (m : Nat) (w : List Rat) (pl : Pl), as = [.fz (rowQ w), .fz (plD pl)] ∧ CsOk m w pl ∧ (addsB m w pl = true → P (chQ (made m w pl))) ∧ (addsB m w pl = false → PE "Missing")
def φ__law_told : Phi := fun as P _ => ∃ (m : Nat) (w : List Rat) (pl : Pl), as = [.fz (rowQ w), .fz (plD pl)] ∧ CsOk m w pl ∧ (addsB m w pl = true → P (chQ (made m w pl))) ∧ (addsB m w pl = false → P .none)
def φ__law_adds_up : Phi := fun as P _ => ∃ (m : Nat) (w : List Rat) (pl : Pl), as = [.fz (rowQ w), .fz (plD pl)] ∧ CsOk m w pl ∧ P (.bool (addsB m w pl))
def φ_cascade : Phi := fun as P _ => ∃ (m n k : Nat) (c R : List (List Rat)), as = [.fz (chQ c), .fz (chQ R)] ∧ ChC m n c ∧ ChC n k R ∧ 1 ≤ n ∧ m ≤ 4 ∧ n ≤ 4 ∧ k ≤ 4 ∧ P (chQ (casc c R k))
structure GsOk (s : Nat) (l : List Rat) : Prop where
  len : l.length ≤ 4
  sz : ∀ x ∈ l, Sz s x
  b : s ≤ 100
def φ_falling : Phi := fun as P _ => ∃ (b : Bool) (l : List Rat) (s : Nat), as = [.fz (seqD b (l.map qD))] ∧ GsOk s l ∧ ∀ f : List Rat, f.Perm l → f.Pairwise (fun a b => b ≤ a) → P (.list (f.map qD))
def φ_guesses_for : Phi := fun as P _ => ∃ (b : Bool) (l : List Rat) (s : Nat), as = [.fz (seqD b (l.map qD))] ∧ GsOk s l ∧ P (qD (G l))
abbrev φ_guesses_needed : Phi := φ_guesses_for
abbrev φ__law_needed : Phi := φ_guesses_for
def φ_guesses_behind : Phi := fun as P _ => ∃ (w : List Rat) (c : List (List Rat)) (n s t : Nat), as = [.fz (rowQ w), .fz (chQ c)] ∧ c ≠ [] ∧ (∀ r ∈ c, r.length = n) ∧ w.length ≤ 4 ∧ n ≤ 4 ∧ s + t ≤ 100 ∧ (∀ y, y < n → ColOk s t w c y) ∧ P (qD (qsum ((List.range n).map fun y => G (colQ w c y))))
section
variable {Γ : Gam}
theorem imp_chance_of (e1 : Γ.Φ "total_of" = φ_total_of) (e2 : Γ.Φ "column_of" = φ_column_of) (as : List Sl) (P : D → Prop) (PE : Str → Prop) (h : φ_chance_of as P PE) : spW Γ d_chance_of as P PE := by
  obtain ⟨w, c, y, s, t, A, rfl, ok, su, hA, hP⟩ := h
  refine ⟨rfl, ?_⟩
  simp only [d_chance_of, true_and, wpSs, wpS, wpE, wpX, wpO, wpC, wpI, ent, kt0, bindT, bindTs, tgsLen, wipeR, constD, owL, List.map_cons, List.map_nil, List.length_cons, List.length_nil, List.replicate, List.cons_append, List.nil_append, Nat.reduceSub, Nat.reduceAdd, List.getElem?_cons_zero, List.getElem?_cons_succ, List.getElem?_nil, List.set_cons_zero, List.set_cons_succ, opF, cmpF, Bi.fd, Option.map_some, if_true, if_false, Bool.true_eq_false, Bool.false_eq_true, reduceIte, Bool.not_true, Bool.not_false, w_some, w_none, w_fz0, w_fz1, w_t0, w_t1, w_t2, w_t3, w_t4, w_add, w_addL, w_addT, w_sub, w_subB, w_mul, w_mulL, w_mulT, w_mod, w_div, w_lt, w_le, w_gt, w_ge, w_is, w_isnt, w_n0, w_n1, w_n2, w_n3, w_n4, w_neg, w_atL, w_atT, w_lenL, w_lenT, w_tupL, w_tupT, w_lisL, w_lisT, w_abs, w_int, w_intB, w_gcd, w_min, w_max, w_seqL, w_seqT, w_augA, w_augS, w_augM, w_intQ, w_lstQ, w_rng1, w_rng2, w_zipL, w_zipT, w_zipM, w_zipN, w_enum, w_enumT, e1, e2]
  exact ⟨false, w, c, y, s, t, rfl, ok, false, _, A, rfl, su, hA, hP⟩
theorem imp_behind (e0 : Γ.gl.lookup ("NOTHING" : Str) = some (qD 0)) (e1 : Γ.Φ "chance_of" = φ_chance_of) (e2 : Γ.Φ "column_of" = φ_column_of) (e3 : Γ.Φ "over" = φ_over) (as : List Sl) (P : D → Prop) (PE : Str → Prop) (h : φ_behind as P PE) : spW Γ d_behind as P PE := by
  obtain ⟨w, c, y, s, t, A, rfl, ok, su, hA, hB, hz, hP⟩ := h
  refine ⟨rfl, ?_⟩
  have hl := ok.l
  simp only [d_behind, true_and, wpSs, wpS, wpE, wpX, wpO, wpC, wpI, ent, kt0, bindT, bindTs, tgsLen, wipeR, constD, owL, List.map_cons, List.map_nil, List.length_cons, List.length_nil, List.replicate, List.cons_append, List.nil_append, Nat.reduceSub, Nat.reduceAdd, List.getElem?_cons_zero, List.getElem?_cons_succ, List.getElem?_nil, List.set_cons_zero, List.set_cons_succ, opF, cmpF, Bi.fd, Option.map_some, if_true, if_false, Bool.true_eq_false, Bool.false_eq_true, reduceIte, Bool.not_true, Bool.not_false, w_some, w_none, w_fz0, w_fz1, w_t0, w_t1, w_t2, w_t3, w_t4, w_add, w_addL, w_addT, w_sub, w_subB, w_mul, w_mulL, w_mulT, w_mod, w_div, w_lt, w_le, w_gt, w_ge, w_is, w_isnt, w_n0, w_n1, w_n2, w_n3, w_n4, w_neg, w_atL, w_atT, w_lenL, w_lenT, w_tupL, w_tupT, w_lisL, w_lisT, w_abs, w_int, w_intB, w_gcd, w_min, w_max, w_seqL, w_seqT, w_augA, w_augS, w_augM, w_intQ, w_lstQ, w_rng1, w_rng2, w_zipL, w_zipT, w_zipM, w_zipN, w_enum, w_enumT, e0, e1, e2, e3]
  refine ⟨w, c, y, s, t, A, rfl, ok, su, hA, ?_⟩
  refine dEqQ ?_
  rw [decide_eq_false hz]
  simp only [true_and, wpSs, wpS, wpE, wpX, wpO, wpC, wpI, ent, kt0, bindT, bindTs, tgsLen, wipeR, constD, owL, List.map_cons, List.map_nil, List.length_cons, List.length_nil, List.replicate, List.cons_append, List.nil_append, Nat.reduceSub, Nat.reduceAdd, List.getElem?_cons_zero, List.getElem?_cons_succ, List.getElem?_nil, List.set_cons_zero, List.set_cons_succ, opF, cmpF, Bi.fd, Option.map_some, if_true, if_false, Bool.true_eq_false, Bool.false_eq_true, reduceIte, Bool.not_true, Bool.not_false, w_some, w_none, w_fz0, w_fz1, w_t0, w_t1, w_t2, w_t3, w_t4, w_add, w_addL, w_addT, w_sub, w_subB, w_mul, w_mulL, w_mulT, w_mod, w_div, w_lt, w_le, w_gt, w_ge, w_is, w_isnt, w_n0, w_n1, w_n2, w_n3, w_n4, w_neg, w_atL, w_atT, w_lenL, w_lenT, w_tupL, w_tupT, w_lisL, w_lisT, w_abs, w_int, w_intB, w_gcd, w_min, w_max, w_seqL, w_seqT, w_augA, w_augS, w_augM, w_intQ, w_lstQ, w_rng1, w_rng2, w_zipL, w_zipT, w_zipM, w_zipN, w_enum, w_enumT]
  refine ⟨false, w, c, y, s, t, rfl, ok, ?_⟩
  simp only [true_and, wpSs, wpS, wpE, wpX, wpO, wpC, wpI, ent, kt0, bindT, bindTs, tgsLen, wipeR, constD, owL, List.map_cons, List.map_nil, List.length_cons, List.length_nil, List.replicate, List.cons_append, List.nil_append, Nat.reduceSub, Nat.reduceAdd, List.getElem?_cons_zero, List.getElem?_cons_succ, List.getElem?_nil, List.set_cons_zero, List.set_cons_succ, opF, cmpF, Bi.fd, Option.map_some, if_true, if_false, Bool.true_eq_false, Bool.false_eq_true, reduceIte, Bool.not_true, Bool.not_false, w_some, w_none, w_fz0, w_fz1, w_t0, w_t1, w_t2, w_t3, w_t4, w_add, w_addL, w_addT, w_sub, w_subB, w_mul, w_mulL, w_mulT, w_mod, w_div, w_lt, w_le, w_gt, w_ge, w_is, w_isnt, w_n0, w_n1, w_n2, w_n3, w_n4, w_neg, w_atL, w_atT, w_lenL, w_lenT, w_tupL, w_tupT, w_lisL, w_lisT, w_abs, w_int, w_intB, w_gcd, w_min, w_max, w_seqL, w_seqT, w_augA, w_augS, w_augM, w_intQ, w_lstQ, w_rng1, w_rng2, w_zipL, w_zipT, w_zipM, w_zipN, w_enum, w_enumT]
  have hcl : (colQ w c y).length ≤ 1000 := by
    unfold colQ
    rw [List.length_zipWith]
    omega
  refine ⟨by rw [List.length_map]; exact small hcl, ?_⟩
  refine foldW_map (fun p => qD (p / chn w c y)) (fun p acc kk hp hk => ?_) ?_
  · exact ⟨p, chn w c y, s + t, A, rfl, col_sz ok p hp, su.all, by omega, hz, hk⟩
  · unfold bhd rowQ at hP
    rw [List.map_map] at hP
    exact hP
theorem chQ_hd {c : List (List Rat)} {n : Nat} (ne : c ≠ []) (rl : ∀ r ∈ c, r.length = n) : ∃ r c', c = r :: c' ∧ r.length = n := by
  cases c with
  | nil => exact absurd rfl ne
  | cons r c' => exact ⟨r, c', rfl, rl r List.mem_cons_self⟩
theorem imp_spread (e0 : Γ.gl.lookup ("NOTHING" : Str) = some (qD 0)) (e1 : Γ.Φ "signs_of" = φ_signs_of) (e2 : Γ.Φ "chance_of" = φ_chance_of) (e3 : Γ.Φ "behind" = φ_behind) (e4 : Γ.Φ "plus" = φ_plus) (as : List Sl) (P : D → Prop) (PE : Str → Prop) (h : φ_spread as P PE) : spW Γ d_spread as P PE := by
  obtain ⟨w, c, n, s, t, A, C, rfl, ok, hP⟩ := h
  refine ⟨rfl, ?_⟩
  have n4 := ok.n4
  simp only [d_spread, true_and, wpSs, wpS, wpE, wpX, wpO, wpC, wpI, ent, kt0, bindT, bindTs, tgsLen, wipeR, constD, owL, List.map_cons, List.map_nil, List.length_cons, List.length_nil, List.replicate, List.cons_append, List.nil_append, Nat.reduceSub, Nat.reduceAdd, List.getElem?_cons_zero, List.getElem?_cons_succ, List.getElem?_nil, List.set_cons_zero, List.set_cons_succ, opF, cmpF, Bi.fd, Option.map_some, if_true, if_false, Bool.true_eq_false, Bool.false_eq_true, reduceIte, Bool.not_true, Bool.not_false, w_some, w_none, w_fz0, w_fz1, w_t0, w_t1, w_t2, w_t3, w_t4, w_add, w_addL, w_addT, w_sub, w_subB, w_mul, w_mulL, w_mulT, w_mod, w_div, w_lt, w_le, w_gt, w_ge, w_is, w_isnt, w_n0, w_n1, w_n2, w_n3, w_n4, w_neg, w_atL, w_atT, w_lenL, w_lenT, w_tupL, w_tupT, w_lisL, w_lisT, w_abs, w_int, w_intB, w_gcd, w_min, w_max, w_seqL, w_seqT, w_augA, w_augS, w_augM, w_intQ, w_lstQ, w_rng1, w_rng2, w_zipL, w_zipT, w_zipM, w_zipN, w_enum, w_enumT, e0, e1, e2, e3, e4]
  obtain ⟨r, c', rfl, hr⟩ := chQ_hd ok.ne ok.rl
  refine ⟨r, c', rfl, ?_⟩
  rw [hr]
  refine ⟨rngOk_small (by omega) (by omega), ?_⟩
  rw [Int.toNat_natCast, rangeD0]
  generalize (r :: c') = c at *
  refine forW_ix (I := fun k ρ => ∃ y3 y4 y5, ρ = [some (.fz (rowQ w)), some (.fz (chQ c)), some (.od ((spI w c k).map eP)), y3, y4, y5]) ⟨none, none, none, rfl⟩ (fun k ρ kk hk hI hkk => ?_) (fun ρ hI => ?_)
  · obtain ⟨y3, y4, y5, rfl⟩ := hI
    have okk := ok.ok k hk
    have su := ok.su k hk
    have cs := ok.cs k hk
    have b1 := ok.b1
    have b2 := ok.b2
    have b3 := ok.b3
    simp only [true_and, wpSs, wpS, wpE, wpX, wpO, wpC, wpI, ent, kt0, bindT, bindTs, tgsLen, wipeR, constD, owL, List.map_cons, List.map_nil, List.length_cons, List.length_nil, List.replicate, List.cons_append, List.nil_append, Nat.reduceSub, Nat.reduceAdd, List.getElem?_cons_zero, List.getElem?_cons_succ, List.getElem?_nil, List.set_cons_zero, List.set_cons_succ, opF, cmpF, Bi.fd, Option.map_some, if_true, if_false, Bool.true_eq_false, Bool.false_eq_true, reduceIte, Bool.not_true, Bool.not_false, w_some, w_none, w_fz0, w_fz1, w_t0, w_t1, w_t2, w_t3, w_t4, w_add, w_addL, w_addT, w_sub, w_subB, w_mul, w_mulL, w_mulT, w_mod, w_div, w_lt, w_le, w_gt, w_ge, w_is, w_isnt, w_n0, w_n1, w_n2, w_n3, w_n4, w_neg, w_atL, w_atT, w_lenL, w_lenT, w_tupL, w_tupT, w_lisL, w_lisT, w_abs, w_int, w_intB, w_gcd, w_min, w_max, w_seqL, w_seqT, w_augA, w_augS, w_augM, w_intQ, w_lstQ, w_rng1, w_rng2, w_zipL, w_zipT, w_zipM, w_zipN, w_enum, w_enumT]
    refine ⟨w, c, k, s, t, A, rfl, okk, su, b2, ?_⟩
    refine dNeQ ?_
    by_cases hz : chn w c k = 0
    · rw [decide_eq_true hz]
      simp only [true_and, wpSs, wpS, wpE, wpX, wpO, wpC, wpI, ent, kt0, bindT, bindTs, tgsLen, wipeR, constD, owL, List.map_cons, List.map_nil, List.length_cons, List.length_nil, List.replicate, List.cons_append, List.nil_append, Nat.reduceSub, Nat.reduceAdd, List.getElem?_cons_zero, List.getElem?_cons_succ, List.getElem?_nil, List.set_cons_zero, List.set_cons_succ, opF, cmpF, Bi.fd, Option.map_some, if_true, if_false, Bool.true_eq_false, Bool.false_eq_true, reduceIte, Bool.not_true, Bool.not_false, w_some, w_none, w_fz0, w_fz1, w_t0, w_t1, w_t2, w_t3, w_t4, w_add, w_addL, w_addT, w_sub, w_subB, w_mul, w_mulL, w_mulT, w_mod, w_div, w_lt, w_le, w_gt, w_ge, w_is, w_isnt, w_n0, w_n1, w_n2, w_n3, w_n4, w_neg, w_atL, w_atT, w_lenL, w_lenT, w_tupL, w_tupT, w_lisL, w_lisT, w_abs, w_int, w_intB, w_gcd, w_min, w_max, w_seqL, w_seqT, w_augA, w_augS, w_augM, w_intQ, w_lstQ, w_rng1, w_rng2, w_zipL, w_zipT, w_zipM, w_zipN, w_enum, w_enumT]
      have : spI w c (k + 1) = spI w c k := by
        conv => lhs; unfold spI
        rw [if_pos hz]
      rw [this] at hkk
      exact hkk _ ⟨_, _, _, rfl⟩
    · rw [decide_eq_false hz]
      simp only [true_and, wpSs, wpS, wpE, wpX, wpO, wpC, wpI, ent, kt0, bindT, bindTs, tgsLen, wipeR, constD, owL, List.map_cons, List.map_nil, List.length_cons, List.length_nil, List.replicate, List.cons_append, List.nil_append, Nat.reduceSub, Nat.reduceAdd, List.getElem?_cons_zero, List.getElem?_cons_succ, List.getElem?_nil, List.set_cons_zero, List.set_cons_succ, opF, cmpF, Bi.fd, Option.map_some, if_true, if_false, Bool.true_eq_false, Bool.false_eq_true, reduceIte, Bool.not_true, Bool.not_false, w_some, w_none, w_fz0, w_fz1, w_t0, w_t1, w_t2, w_t3, w_t4, w_add, w_addL, w_addT, w_sub, w_subB, w_mul, w_mulL, w_mulT, w_mod, w_div, w_lt, w_le, w_gt, w_ge, w_is, w_isnt, w_n0, w_n1, w_n2, w_n3, w_n4, w_neg, w_atL, w_atT, w_lenL, w_lenT, w_tupL, w_tupT, w_lisL, w_lisT, w_abs, w_int, w_intB, w_gcd, w_min, w_max, w_seqL, w_seqT, w_augA, w_augS, w_augM, w_intQ, w_lstQ, w_rng1, w_rng2, w_zipL, w_zipT, w_zipM, w_zipN, w_enum, w_enumT]
      refine ⟨w, c, k, s, t, A, rfl, okk, su, b2, b1, hz, ?_⟩
      have hn := spI_nodup w c k
      obtain ⟨d1, d2⟩ := dict_step (r := bhd w c k) (s := chn w c k) hn
      have hg : Sz (sumSz 4 C) (getQ (spI w c k) (bhd w c k)) := by
        rcases get_mem (l := spI w c k) (r := bhd w c k) with h | ⟨p, hp, e⟩
        · rw [h]
          exact Sz.zero.mono (by unfold sumSz; omega)
        · rw [← e]
          exact part_sz (n := k) (by omega) (fun y hy => ok.cs y (by omega)) (spI_part hp)
      have hlen := spI_length w c k
      simp only [true_and, wpSs, wpS, wpE, wpX, wpO, wpC, wpI, ent, kt0, bindT, bindTs, tgsLen, wipeR, constD, owL, List.map_cons, List.map_nil, List.length_cons, List.length_nil, List.replicate, List.cons_append, List.nil_append, Nat.reduceSub, Nat.reduceAdd, List.getElem?_cons_zero, List.getElem?_cons_succ, List.getElem?_nil, List.set_cons_zero, List.set_cons_succ, opF, cmpF, Bi.fd, Option.map_some, if_true, if_false, Bool.true_eq_false, Bool.false_eq_true, reduceIte, Bool.not_true, Bool.not_false, w_some, w_none, w_fz0, w_fz1, w_t0, w_t1, w_t2, w_t3, w_t4, w_add, w_addL, w_addT, w_sub, w_subB, w_mul, w_mulL, w_mulT, w_mod, w_div, w_lt, w_le, w_gt, w_ge, w_is, w_isnt, w_n0, w_n1, w_n2, w_n3, w_n4, w_neg, w_atL, w_atT, w_lenL, w_lenT, w_tupL, w_tupT, w_lisL, w_lisT, w_abs, w_int, w_intB, w_gcd, w_min, w_max, w_seqL, w_seqT, w_augA, w_augS, w_augM, w_intQ, w_lstQ, w_rng1, w_rng2, w_zipL, w_zipT, w_zipM, w_zipN, w_enum, w_enumT, keyT_row, d1]
      refine ⟨_, _, sumSz 4 C, C, rfl, hg, cs, b3, ?_⟩
      simp only [odL, true_and, wpSs, wpS, wpE, wpX, wpO, wpC, wpI, ent, kt0, bindT, bindTs, tgsLen, wipeR, constD, owL, List.map_cons, List.map_nil, List.length_cons, List.length_nil, List.replicate, List.cons_append, List.nil_append, Nat.reduceSub, Nat.reduceAdd, List.getElem?_cons_zero, List.getElem?_cons_succ, List.getElem?_nil, List.set_cons_zero, List.set_cons_succ, opF, cmpF, Bi.fd, Option.map_some, if_true, if_false, Bool.true_eq_false, Bool.false_eq_true, reduceIte, Bool.not_true, Bool.not_false, w_some, w_none, w_fz0, w_fz1, w_t0, w_t1, w_t2, w_t3, w_t4, w_add, w_addL, w_addT, w_sub, w_subB, w_mul, w_mulL, w_mulT, w_mod, w_div, w_lt, w_le, w_gt, w_ge, w_is, w_isnt, w_n0, w_n1, w_n2, w_n3, w_n4, w_neg, w_atL, w_atT, w_lenL, w_lenT, w_tupL, w_tupT, w_lisL, w_lisT, w_abs, w_int, w_intB, w_gcd, w_min, w_max, w_seqL, w_seqT, w_augA, w_augS, w_augM, w_intQ, w_lstQ, w_rng1, w_rng2, w_zipL, w_zipT, w_zipM, w_zipN, w_enum, w_enumT, keyT_row]
      refine ⟨by rw [List.length_map]; exact small1000 (by omega), hkk _ ⟨some (.fz (.int k)), some (.fz (qD (chn w c k))), some (.fz (rowQ (bhd w c k))), ?_⟩⟩
      have : spI w c (k + 1) = putQ (spI w c k) (bhd w c k) (chn w c k) := by
        conv => lhs; unfold spI
        rw [if_neg hz]
      rw [this, ← d2]
  · obtain ⟨y3, y4, y5, rfl⟩ := hI
    have hlen := spI_length w c n
    simp only [true_and, wpSs, wpS, wpE, wpX, wpO, wpC, wpI, ent, kt0, bindT, bindTs, tgsLen, wipeR, constD, owL, List.map_cons, List.map_nil, List.length_cons, List.length_nil, List.replicate, List.cons_append, List.nil_append, Nat.reduceSub, Nat.reduceAdd, List.getElem?_cons_zero, List.getElem?_cons_succ, List.getElem?_nil, List.set_cons_zero, List.set_cons_succ, opF, cmpF, Bi.fd, Option.map_some, if_true, if_false, Bool.true_eq_false, Bool.false_eq_true, reduceIte, Bool.not_true, Bool.not_false, w_some, w_none, w_fz0, w_fz1, w_t0, w_t1, w_t2, w_t3, w_t4, w_add, w_addL, w_addT, w_sub, w_subB, w_mul, w_mulL, w_mulT, w_mod, w_div, w_lt, w_le, w_gt, w_ge, w_is, w_isnt, w_n0, w_n1, w_n2, w_n3, w_n4, w_neg, w_atL, w_atT, w_lenL, w_lenT, w_tupL, w_tupT, w_lisL, w_lisT, w_abs, w_int, w_intB, w_gcd, w_min, w_max, w_seqL, w_seqT, w_augA, w_augS, w_augM, w_intQ, w_lstQ, w_rng1, w_rng2, w_zipL, w_zipT, w_zipM, w_zipN, w_enum, w_enumT, view_eP]
    refine ⟨sortOk_pl (small (by omega)), ?_⟩
    rw [sortD_pl]
    exact hP
theorem imp_cascade (e1 : Γ.Φ "total_of" = φ_total_of) (e2 : Γ.Φ "times" = φ_times) (as : List Sl) (P : D → Prop) (PE : Str → Prop) (h : φ_cascade as P PE) : spW Γ d_cascade as P PE := by
  obtain ⟨m, n, k, c, R, rfl, hc, hR, n1, m4, n4, k4, hP⟩ := h
  refine ⟨rfl, ?_⟩
  obtain ⟨r0, R', eR, hr0⟩ := chQ_hd (c := R) (fun e => by have := hR.len; rw [e] at this; simp at this; omega) fun r hr => (hR.row r hr).len
  have hlen : dSub1 (chQ R) (.int 0) = fun Q => Q (rowQ r0) := by
    funext Q
    rw [eR]
    simp only [chQ, true_and, wpSs, wpS, wpE, wpX, wpO, wpC, wpI, ent, kt0, bindT, bindTs, tgsLen, wipeR, constD, owL, List.map_cons, List.map_nil, List.length_cons, List.length_nil, List.replicate, List.cons_append, List.nil_append, Nat.reduceSub, Nat.reduceAdd, List.getElem?_cons_zero, List.getElem?_cons_succ, List.getElem?_nil, List.set_cons_zero, List.set_cons_succ, opF, cmpF, Bi.fd, Option.map_some, if_true, if_false, Bool.true_eq_false, Bool.false_eq_true, reduceIte, Bool.not_true, Bool.not_false, w_some, w_none, w_fz0, w_fz1, w_t0, w_t1, w_t2, w_t3, w_t4, w_add, w_addL, w_addT, w_sub, w_subB, w_mul, w_mulL, w_mulT, w_mod, w_div, w_lt, w_le, w_gt, w_ge, w_is, w_isnt, w_n0, w_n1, w_n2, w_n3, w_n4, w_neg, w_atL, w_atT, w_lenL, w_lenT, w_tupL, w_tupT, w_lisL, w_lisT, w_abs, w_int, w_intB, w_gcd, w_min, w_max, w_seqL, w_seqT, w_augA, w_augS, w_augM, w_intQ, w_lstQ, w_rng1, w_rng2, w_zipL, w_zipT, w_zipM, w_zipN, w_enum, w_enumT, atI0]
  simp only [d_cascade, true_and, wpSs, wpS, wpE, wpX, wpO, wpC, wpI, ent, kt0, bindT, bindTs, tgsLen, wipeR, constD, owL, List.map_cons, List.map_nil, List.length_cons, List.length_nil, List.replicate, List.cons_append, List.nil_append, Nat.reduceSub, Nat.reduceAdd, List.getElem?_cons_zero, List.getElem?_cons_succ, List.getElem?_nil, List.set_cons_zero, List.set_cons_succ, opF, cmpF, Bi.fd, Option.map_some, if_true, if_false, Bool.true_eq_false, Bool.false_eq_true, reduceIte, Bool.not_true, Bool.not_false, w_some, w_none, w_fz0, w_fz1, w_t0, w_t1, w_t2, w_t3, w_t4, w_add, w_addL, w_addT, w_sub, w_subB, w_mul, w_mulL, w_mulT, w_mod, w_div, w_lt, w_le, w_gt, w_ge, w_is, w_isnt, w_n0, w_n1, w_n2, w_n3, w_n4, w_neg, w_atL, w_atT, w_lenL, w_lenT, w_tupL, w_tupT, w_lisL, w_lisT, w_abs, w_int, w_intB, w_gcd, w_min, w_max, w_seqL, w_seqT, w_augA, w_augS, w_augM, w_intQ, w_lstQ, w_rng1, w_rng2, w_zipL, w_zipT, w_zipM, w_zipN, w_enum, w_enumT, e1, e2, hlen]
  have hcl := hc.len
  rw [show chQ c = .tuple (c.map rowQ) from rfl]
  simp only [true_and, wpSs, wpS, wpE, wpX, wpO, wpC, wpI, ent, kt0, bindT, bindTs, tgsLen, wipeR, constD, owL, List.map_cons, List.map_nil, List.length_cons, List.length_nil, List.replicate, List.cons_append, List.nil_append, Nat.reduceSub, Nat.reduceAdd, List.getElem?_cons_zero, List.getElem?_cons_succ, List.getElem?_nil, List.set_cons_zero, List.set_cons_succ, opF, cmpF, Bi.fd, Option.map_some, if_true, if_false, Bool.true_eq_false, Bool.false_eq_true, reduceIte, Bool.not_true, Bool.not_false, w_some, w_none, w_fz0, w_fz1, w_t0, w_t1, w_t2, w_t3, w_t4, w_add, w_addL, w_addT, w_sub, w_subB, w_mul, w_mulL, w_mulT, w_mod, w_div, w_lt, w_le, w_gt, w_ge, w_is, w_isnt, w_n0, w_n1, w_n2, w_n3, w_n4, w_neg, w_atL, w_atT, w_lenL, w_lenT, w_tupL, w_tupT, w_lisL, w_lisT, w_abs, w_int, w_intB, w_gcd, w_min, w_max, w_seqL, w_seqT, w_augA, w_augS, w_augM, w_intQ, w_lstQ, w_rng1, w_rng2, w_zipL, w_zipT, w_zipM, w_zipN, w_enum, w_enumT]
  refine forW_inv (I := fun done ρ => ∃ y3 y4 y5 y6 y7, ρ = [some (.fz (.tuple (c.map rowQ))), some (.fz (chQ R)), some (.ow (.list ((casc done R k).map rowQ))), y3, y4, y5, y6, y7]) ⟨none, none, none, none, none, rfl⟩ (fun done r rest ρ kk el hI hk => ?_) (fun ρ hI => ?_)
  · obtain ⟨y3, y4, y5, y6, y7, rfl⟩ := hI
    have hr := hc.row r (by rw [el]; simp)
    have ld : done.length < m := by rw [el] at hcl; simp at hcl; omega
    have ecs : casc (done ++ [r]) R k = casc done R k ++ [(List.range k).map fun z => qsum (r.zipWith (fun p (q : List Rat) => p * q.getD z 0) R)] := by
      unfold casc
      rw [List.map_append]
      rfl
    rw [ecs, List.map_append] at hk
    have lcd : (casc done R k).length = done.length := by unfold casc; rw [List.length_map]
    generalize casc done R k = dn at *
    simp only [true_and, wpSs, wpS, wpE, wpX, wpO, wpC, wpI, ent, kt0, bindT, bindTs, tgsLen, wipeR, constD, owL, List.map_cons, List.map_nil, List.length_cons, List.length_nil, List.replicate, List.cons_append, List.nil_append, Nat.reduceSub, Nat.reduceAdd, List.getElem?_cons_zero, List.getElem?_cons_succ, List.getElem?_nil, List.set_cons_zero, List.set_cons_succ, opF, cmpF, Bi.fd, Option.map_some, if_true, if_false, Bool.true_eq_false, Bool.false_eq_true, reduceIte, Bool.not_true, Bool.not_false, w_some, w_none, w_fz0, w_fz1, w_t0, w_t1, w_t2, w_t3, w_t4, w_add, w_addL, w_addT, w_sub, w_subB, w_mul, w_mulL, w_mulT, w_mod, w_div, w_lt, w_le, w_gt, w_ge, w_is, w_isnt, w_n0, w_n1, w_n2, w_n3, w_n4, w_neg, w_atL, w_atT, w_lenL, w_lenT, w_tupL, w_tupT, w_lisL, w_lisT, w_abs, w_int, w_intB, w_gcd, w_min, w_max, w_seqL, w_seqT, w_augA, w_augS, w_augM, w_intQ, w_lstQ, w_rng1, w_rng2, w_zipL, w_zipT, w_zipM, w_zipN, w_enum, w_enumT, hlen, rowQ, List.length_map, hr0]
    refine ⟨rngOk_small (by omega) (by omega), ?_⟩
    rw [Int.toNat_natCast, rangeD0]
    refine forW_ix (I := fun z ρ => ∃ y5 y6 y7, ρ = [some (.fz (.tuple (c.map rowQ))), some (.fz (chQ R)), some (.ow (.list (dn.map rowQ))), some (.fz (.tuple (r.map qD))), some (.ow (.list ((List.range z).map fun z => qD (qsum (r.zipWith (fun p (q : List Rat) => p * q.getD z 0) R))))), y5, y6, y7]) ⟨y5, y6, y7, rfl⟩ (fun z ρ k2 hz hI hk2 => ?_) (fun ρ hI => ?_)
    · obtain ⟨y5, y6, y7, rfl⟩ := hI
      rw [List.range_succ, List.map_append, List.map_cons, List.map_nil] at hk2
      rw [show chQ R = .tuple (R.map rowQ) from rfl] at hk2 ⊢
      simp only [true_and, wpSs, wpS, wpE, wpX, wpO, wpC, wpI, ent, kt0, bindT, bindTs, tgsLen, wipeR, constD, owL, List.map_cons, List.map_nil, List.length_cons, List.length_nil, List.replicate, List.cons_append, List.nil_append, Nat.reduceSub, Nat.reduceAdd, List.getElem?_cons_zero, List.getElem?_cons_succ, List.getElem?_nil, List.set_cons_zero, List.set_cons_succ, opF, cmpF, Bi.fd, Option.map_some, if_true, if_false, Bool.true_eq_false, Bool.false_eq_true, reduceIte, Bool.not_true, Bool.not_false, w_some, w_none, w_fz0, w_fz1, w_t0, w_t1, w_t2, w_t3, w_t4, w_add, w_addL, w_addT, w_sub, w_subB, w_mul, w_mulL, w_mulT, w_mod, w_div, w_lt, w_le, w_gt, w_ge, w_is, w_isnt, w_n0, w_n1, w_n2, w_n3, w_n4, w_neg, w_atL, w_atT, w_lenL, w_lenT, w_tupL, w_tupT, w_lisL, w_lisT, w_abs, w_int, w_intB, w_gcd, w_min, w_max, w_seqL, w_seqT, w_augA, w_augS, w_augM, w_intQ, w_lstQ, w_rng1, w_rng2, w_zipL, w_zipT, w_zipM, w_zipN, w_enum, w_enumT]
      rw [zipD_map2]
      have lz : (r.zip R).length ≤ 4 := by rw [List.length_zip, hr.len]; omega
      refine ⟨by rw [List.length_map]; exact small (by omega), ?_⟩
      refine foldW_map (fun p => qD (p.1 * p.2.getD z 0)) (fun p acc k3 hp hk3 => ?_) ?_
      · have hq := hR.row _ (mem_zip hp).2
        simp only [true_and, wpSs, wpS, wpE, wpX, wpO, wpC, wpI, ent, kt0, bindT, bindTs, tgsLen, wipeR, constD, owL, List.map_cons, List.map_nil, List.length_cons, List.length_nil, List.replicate, List.cons_append, List.nil_append, Nat.reduceSub, Nat.reduceAdd, List.getElem?_cons_zero, List.getElem?_cons_succ, List.getElem?_nil, List.set_cons_zero, List.set_cons_succ, opF, cmpF, Bi.fd, Option.map_some, if_true, if_false, Bool.true_eq_false, Bool.false_eq_true, reduceIte, Bool.not_true, Bool.not_false, w_some, w_none, w_fz0, w_fz1, w_t0, w_t1, w_t2, w_t3, w_t4, w_add, w_addL, w_addT, w_sub, w_subB, w_mul, w_mulL, w_mulT, w_mod, w_div, w_lt, w_le, w_gt, w_ge, w_is, w_isnt, w_n0, w_n1, w_n2, w_n3, w_n4, w_neg, w_atL, w_atT, w_lenL, w_lenT, w_tupL, w_tupT, w_lisL, w_lisT, w_abs, w_int, w_intB, w_gcd, w_min, w_max, w_seqL, w_seqT, w_augA, w_augS, w_augM, w_intQ, w_lstQ, w_rng1, w_rng2, w_zipL, w_zipT, w_zipM, w_zipN, w_enum, w_enumT, rowQ, at_qD (l := p.2) (x := z) (by rw [hq.len]; exact hz)]
        exact ⟨_, _, 7, 7, rfl, hr.sz _ (mem_zip hp).1, hq.sz _ (getD_mem 0 (by rw [hq.len]; exact hz)), by decide, hk3⟩
      · have hs : Sums 75 (r.zipWith (fun p (q : List Rat) => p * q.getD z 0) R) := by
          rw [zipWith_zip]
          refine sums_le (L := 4) (n := 14) (by rw [List.length_map]; exact lz) fun x hx => ?_
          obtain ⟨p, hp, rfl⟩ := List.mem_map.mp hx
          have hq := hR.row _ (mem_zip hp).2
          exact (hr.sz _ (mem_zip hp).1).mul (hq.sz _ (getD_mem 0 (by rw [hq.len]; exact hz))) (Nat.le_refl _)
        refine ⟨true, r.zipWith (fun p (q : List Rat) => p * q.getD z 0) R, 75, by rw [zipWith_zip, List.map_map]; rfl, hs, by decide, ?_⟩
        refine ⟨by rw [List.length_map, List.length_range]; exact small1000 (by omega), hk2 _ ⟨_, _, _, rfl⟩⟩
    · obtain ⟨y5, y6, y7, rfl⟩ := hI
      simp only [true_and, wpSs, wpS, wpE, wpX, wpO, wpC, wpI, ent, kt0, bindT, bindTs, tgsLen, wipeR, constD, owL, List.map_cons, List.map_nil, List.length_cons, List.length_nil, List.replicate, List.cons_append, List.nil_append, Nat.reduceSub, Nat.reduceAdd, List.getElem?_cons_zero, List.getElem?_cons_succ, List.getElem?_nil, List.set_cons_zero, List.set_cons_succ, opF, cmpF, Bi.fd, Option.map_some, if_true, if_false, Bool.true_eq_false, Bool.false_eq_true, reduceIte, Bool.not_true, Bool.not_false, w_some, w_none, w_fz0, w_fz1, w_t0, w_t1, w_t2, w_t3, w_t4, w_add, w_addL, w_addT, w_sub, w_subB, w_mul, w_mulL, w_mulT, w_mod, w_div, w_lt, w_le, w_gt, w_ge, w_is, w_isnt, w_n0, w_n1, w_n2, w_n3, w_n4, w_neg, w_atL, w_atT, w_lenL, w_lenT, w_tupL, w_tupT, w_lisL, w_lisT, w_abs, w_int, w_intB, w_gcd, w_min, w_max, w_seqL, w_seqT, w_augA, w_augS, w_augM, w_intQ, w_lstQ, w_rng1, w_rng2, w_zipL, w_zipT, w_zipM, w_zipN, w_enum, w_enumT]
      refine ⟨by rw [List.length_map]; exact small1000 (by omega), hk _ ⟨some (.fz (.tuple (r.map qD))), some (.ow (.list ((List.range k).map fun z => qD (qsum (r.zipWith (fun p (q : List Rat) => p * q.getD z 0) R))))), y5, y6, y7, ?_⟩⟩
      rw [List.map_cons, List.map_nil, show rowQ ((List.range k).map fun z => qsum (r.zipWith (fun p (q : List Rat) => p * q.getD z 0) R)) = .tuple ((List.range k).map fun z => qD (qsum (r.zipWith (fun p (q : List Rat) => p * q.getD z 0) R))) by unfold rowQ; rw [List.map_map]; rfl]
  · obtain ⟨y3, y4, y5, y6, y7, rfl⟩ := hI
    simp only [true_and, wpSs, wpS, wpE, wpX, wpO, wpC, wpI, ent, kt0, bindT, bindTs, tgsLen, wipeR, constD, owL, List.map_cons, List.map_nil, List.length_cons, List.length_nil, List.replicate, List.cons_append, List.nil_append, Nat.reduceSub, Nat.reduceAdd, List.getElem?_cons_zero, List.getElem?_cons_succ, List.getElem?_nil, List.set_cons_zero, List.set_cons_succ, opF, cmpF, Bi.fd, Option.map_some, if_true, if_false, Bool.true_eq_false, Bool.false_eq_true, reduceIte, Bool.not_true, Bool.not_false, w_some, w_none, w_fz0, w_fz1, w_t0, w_t1, w_t2, w_t3, w_t4, w_add, w_addL, w_addT, w_sub, w_subB, w_mul, w_mulL, w_mulT, w_mod, w_div, w_lt, w_le, w_gt, w_ge, w_is, w_isnt, w_n0, w_n1, w_n2, w_n3, w_n4, w_neg, w_atL, w_atT, w_lenL, w_lenT, w_tupL, w_tupT, w_lisL, w_lisT, w_abs, w_int, w_intB, w_gcd, w_min, w_max, w_seqL, w_seqT, w_augA, w_augS, w_augM, w_intQ, w_lstQ, w_rng1, w_rng2, w_zipL, w_zipT, w_zipM, w_zipN, w_enum, w_enumT]
    exact hP
end
end DL

set_option Elab.async false
set_option linter.all false
set_option maxRecDepth 100000
set_option maxHeartbeats 4000000
namespace DL
open PySem PySem.Spec PyProof.Rows L2
/-! ### sums of the ranked -/
def gsl (f : List Rat) : List Rat := (List.range f.length).map fun j => ((((j : Nat) : Int) + 1 : Int) : Rat) * f.getD j 0
theorem gsl_snoc (f : List Rat) (x : Rat) : gsl (f ++ [x]) = gsl f ++ [((((f.length : Nat) : Int) + 1 : Int) : Rat) * x] := by
  unfold gsl
  rw [List.length_append, List.length_singleton, List.range_succ, List.map_append, List.map_cons, List.map_nil]
  congr 1
  · refine List.map_congr_left fun j hj => ?_
    have hj := List.mem_range.mp hj
    rw [List.getD_eq_getElem?_getD, List.getElem?_append_left hj, ← List.getD_eq_getElem?_getD]
  · rw [List.getD_eq_getElem?_getD, List.getElem?_append_right (Nat.le_refl _), Nat.sub_self]
    rfl
theorem G_desc (f : List Rat) : f.Pairwise (fun a b => b ≤ a) → G f = qsum (gsl f) := by
  refine snoc_ind (M := fun f => f.Pairwise (fun a b => b ≤ a) → G f = qsum (gsl f)) (fun _ => rfl) (fun l a ih h => ?_) f
  rw [List.pairwise_append] at h
  rw [gsl_snoc, qsum_snoc, G_snoc fun y hy => h.2.2 y hy a (by simp), ih h.1]
  congr 2
theorem gsl_sums {f : List Rat} {s : Nat} (hl : f.length ≤ 4) (hs : ∀ x ∈ f, Sz s x) : Sums (sumSz 4 (s + 3)) (gsl f) := by
  refine sums_le (by unfold gsl; rw [List.length_map, List.length_range]; exact hl) fun x hx => ?_
  obtain ⟨j, hj, rfl⟩ := List.mem_map.mp hx
  have hj := List.mem_range.mp hj
  exact (Sz.ofInt (n := 3) (i := (j : Int) + 1) (show ((j : Int) + 1).natAbs < 2 ^ 3 by omega) (by decide)).mul (hs _ (getD_mem 0 hj)) (by omega)
theorem gsl_take (f : List Rat) (k : Nat) (hk : k ≤ f.length) : gsl f = (List.range k).map (fun j => ((((j : Nat) : Int) + 1 : Int) : Rat) * f.getD j 0) ++ (gsl f).drop k := by
  have : (List.range k).map (fun j => ((((j : Nat) : Int) + 1 : Int) : Rat) * f.getD j 0) = (gsl f).take k := by
    unfold gsl
    rw [← List.map_take, List.take_range, Nat.min_eq_left hk]
  rw [this, List.take_append_drop]
theorem ins_ok (x : Rat) : ∀ f : List Rat, f.Pairwise (fun a b => b ≤ a) → (f.take (f.filter fun o => decide (x ≤ o)).length ++ [x] ++ f.drop (f.filter fun o => decide (x ≤ o)).length).Pairwise (fun a b => b ≤ a) ∧
    (f.take (f.filter fun o => decide (x ≤ o)).length ++ [x] ++ f.drop (f.filter fun o => decide (x ≤ o)).length).Perm (f ++ [x])
  | [], _ => ⟨by simp, .refl _⟩
  | a :: f, h => by
    rw [List.pairwise_cons] at h
    obtain ⟨h1, h2⟩ := ins_ok x f h.2
    rw [List.filter_cons]
    by_cases c : x ≤ a
    · rw [decide_eq_true c, if_pos rfl, List.length_cons, List.take_succ_cons, List.drop_succ_cons, List.cons_append, List.cons_append]
      refine ⟨?_, h2.cons a⟩
      rw [List.pairwise_cons]
      refine ⟨fun b hb => ?_, h1⟩
      have := h2.mem_iff.mp hb
      rcases List.mem_append.mp this with hb | hb
      · exact h.1 b hb
      · rw [List.mem_singleton.mp hb]
        exact c
    · rw [decide_eq_false c, if_neg Bool.false_ne_true]
      have e : (f.filter fun o => decide (x ≤ o)) = [] := by
        rw [List.filter_eq_nil_iff]
        intro b hb hx
        have := h.1 b hb
        have := of_decide_eq_true hx
        grind
      rw [e, List.length_nil, List.take_zero, List.drop_zero, List.nil_append]
      refine ⟨?_, List.perm_append_comm⟩
      show (x :: a :: f).Pairwise _
      rw [List.pairwise_cons, List.pairwise_cons]
      refine ⟨fun b hb => ?_, h.1, h.2⟩
      rcases List.mem_cons.mp hb with rfl | hb
      · grind
      · have := h.1 b hb
        grind
theorem erase_perm {x : Rat} : ∀ {l : List Rat} {j : Nat}, l[j]? = some x → (x :: l.eraseIdx j).Perm l
  | [], j, h => by simp at h
  | a :: l, 0, h => by
    simp at h
    rw [h]
    exact .refl _
  | a :: l, j + 1, h => by
    have := erase_perm (l := l) (j := j) (by simpa using h)
    show (x :: a :: l.eraseIdx j).Perm _
    exact (List.Perm.swap a x _).trans (this.cons a)
theorem erase_map {α β : Type} (f : α → β) : ∀ (j : Nat) (l : List α), (l.eraseIdx j).map f = (l.map f).eraseIdx j
  | _, [] => rfl
  | 0, _ :: _ => rfl
  | j + 1, a :: l => congrArg (f a :: ·) (erase_map f j l)
theorem place_q {l : List Rat} {x : Rat} (h : x ∈ l) : ∃ j, PySem.SeqAt.dataPlace (l.map qD) (qD x) = some j ∧ l[j]? = some x := by
  have e : PySem.SeqAt.dataPlace (l.map qD) (qD x) = l.findIdx? fun y => decide (y = x) := by
    unfold PySem.SeqAt.dataPlace
    rw [List.findIdx?_map]
    congr 1
    funext y
    exact td_dec y x
  rw [e]
  cases hf : l.findIdx? fun y => decide (y = x) with
  | none =>
    rw [List.findIdx?_eq_none_iff] at hf
    exact absurd (hf x h) (by simp)
  | some j =>
    rw [List.findIdx?_eq_some_iff_getElem] at hf
    obtain ⟨h1, h2, _⟩ := hf
    exact ⟨j, rfl, by rw [List.getElem?_eq_getElem h1, of_decide_eq_true h2]⟩
section
variable {Γ : Gam}
theorem plan_fold {P : D → Prop} {PE : Str → Prop} {m : Nat} {w : List Rat} {pl : Pl} (ok : CsOk m w pl) {x : Nat} (hx : x < m) (f : Phi) (hf : f = φ_total) (hP : P (qD (qsum (pl.map fun p => p.2 * p.1.getD x 0)))) {stp : D → List D → (List D → Prop) → Prop}
    (hs : ∀ p acc kk, p ∈ pl → atI (p.1.map qD) (x : Int) = some (qD (p.1.getD x 0)) → (∀ PE2, φ_times [.fz (qD p.2), .fz (qD (p.1.getD x 0))] (fun y => kk (acc ++ [y])) PE2) → stp (pD p) acc kk) :
    (pl.map pD).length ≤ sizeLine ∧ foldW stp (pl.map pD) [] fun acc => f [.fz (.list acc)] P PE := by
  subst hf
  have l4 := ok.pl.len
  refine ⟨by rw [List.length_map]; exact small (by omega), foldW_map (fun p => qD (p.2 * p.1.getD x 0)) (fun p acc kk hp hk => ?_) ?_⟩
  · have hl := ok.pl.rl p hp
    refine hs p acc kk hp (at_qD (by omega)) fun PE2 => ⟨_, _, 380, 89, rfl, ok.pl.ss p hp, ok.pl.rs p hp _ (getD_mem 0 (by omega)), by decide, hk⟩
  · refine ⟨true, pl.map (fun p => p.2 * p.1.getD x 0), sumSz 4 469, by rw [List.map_map]; rfl, sums_le (by rw [List.length_map]; exact l4) fun v hv => ?_, by decide, hP⟩
    obtain ⟨p, hp, rfl⟩ := List.mem_map.mp hv
    have hl := ok.pl.rl p hp
    exact (ok.pl.ss p hp).mul (ok.pl.rs p hp _ (getD_mem 0 (by omega))) (Nat.le_refl _)
theorem imp_channel_of_spread (e0 : Γ.gl.lookup ("NOTHING" : Str) = some (qD 0)) (e1 : Γ.Φ "total_of" = φ_total_of) (e2 : Γ.Φ "times" = φ_times) (e3 : Γ.Φ "over" = φ_over) (as : List Sl) (P : D → Prop) (PE : Str → Prop) (h : φ_channel_of_spread as P PE) : spW Γ d_channel_of_spread as P PE := by
  obtain ⟨m, w, pl, rfl, ok, hy, hno⟩ := h
  refine ⟨rfl, ?_⟩
  have m4 := ok.m4
  have lw := ok.lw
  have l4 := ok.pl.len
  simp only [d_channel_of_spread, true_and, wpSs, wpS, wpE, wpX, wpO, wpC, wpI, ent, kt0, bindT, bindTs, tgsLen, wipeR, constD, owL, List.map_cons, List.map_nil, List.length_cons, List.length_nil, List.replicate, List.cons_append, List.nil_append, Nat.reduceSub, Nat.reduceAdd, List.getElem?_cons_zero, List.getElem?_cons_succ, List.getElem?_nil, List.set_cons_zero, List.set_cons_succ, opF, cmpF, Bi.fd, Option.map_some, if_true, if_false, Bool.true_eq_false, Bool.false_eq_true, reduceIte, Bool.not_true, Bool.not_false, w_some, w_none, w_fz0, w_fz1, w_t0, w_t1, w_t2, w_t3, w_t4, w_add, w_addL, w_addT, w_sub, w_subB, w_mul, w_mulL, w_mulT, w_mod, w_div, w_lt, w_le, w_gt, w_ge, w_is, w_isnt, w_n0, w_n1, w_n2, w_n3, w_n4, w_neg, w_atL, w_atT, w_lenL, w_lenT, w_tupL, w_tupT, w_lisL, w_lisT, w_abs, w_int, w_intB, w_gcd, w_min, w_max, w_seqL, w_seqT, w_augA, w_augS, w_augM, w_intQ, w_lstQ, w_rng1, w_rng2, w_zipL, w_zipT, w_zipM, w_zipN, w_enum, w_enumT, e0, e1, e2, e3, rowQ, plD]
  rw [enumD_map qD 0 w, lw]
  refine forW_ix (I := fun k ρ => (∀ x, x < k → qsum (pl.map fun p => p.2 * p.1.getD x 0) = wx w x) ∧ ∃ y2 y3 y4 y5 y6 y7, ρ = [some (.fz (.tuple (w.map qD))), some (.fz (.tuple (pl.map pD))), y2, y3, y4, y5, y6, y7]) ⟨fun x hx => absurd hx (by omega), none, none, none, none, none, none, rfl⟩ (fun k ρ kk hk hI hkk => ?_) (fun ρ hI => ?_)
  · obtain ⟨hu, y2, y3, y4, y5, y6, y7, rfl⟩ := hI
    simp only [true_and, wpSs, wpS, wpE, wpX, wpO, wpC, wpI, ent, kt0, bindT, bindTs, tgsLen, wipeR, constD, owL, List.map_cons, List.map_nil, List.length_cons, List.length_nil, List.replicate, List.cons_append, List.nil_append, Nat.reduceSub, Nat.reduceAdd, List.getElem?_cons_zero, List.getElem?_cons_succ, List.getElem?_nil, List.set_cons_zero, List.set_cons_succ, opF, cmpF, Bi.fd, Option.map_some, if_true, if_false, Bool.true_eq_false, Bool.false_eq_true, reduceIte, Bool.not_true, Bool.not_false, w_some, w_none, w_fz0, w_fz1, w_t0, w_t1, w_t2, w_t3, w_t4, w_add, w_addL, w_addT, w_sub, w_subB, w_mul, w_mulL, w_mulT, w_mod, w_div, w_lt, w_le, w_gt, w_ge, w_is, w_isnt, w_n0, w_n1, w_n2, w_n3, w_n4, w_neg, w_atL, w_atT, w_lenL, w_lenT, w_tupL, w_tupT, w_lisL, w_lisT, w_abs, w_int, w_intB, w_gcd, w_min, w_max, w_seqL, w_seqT, w_augA, w_augS, w_augM, w_intQ, w_lstQ, w_rng1, w_rng2, w_zipL, w_zipT, w_zipM, w_zipN, w_enum, w_enumT]
    refine plan_fold ok hk φ_total_of rfl ?_ fun p acc k2 hp ha ht => ?_
    · refine dNeQ ?_
      by_cases c : qsum (pl.map fun p => p.2 * p.1.getD k 0) = w.getD k 0
      · rw [decide_eq_true c]
        simp only [true_and, wpSs, wpS, wpE, wpX, wpO, wpC, wpI, ent, kt0, bindT, bindTs, tgsLen, wipeR, constD, owL, List.map_cons, List.map_nil, List.length_cons, List.length_nil, List.replicate, List.cons_append, List.nil_append, Nat.reduceSub, Nat.reduceAdd, List.getElem?_cons_zero, List.getElem?_cons_succ, List.getElem?_nil, List.set_cons_zero, List.set_cons_succ, opF, cmpF, Bi.fd, Option.map_some, if_true, if_false, Bool.true_eq_false, Bool.false_eq_true, reduceIte, Bool.not_true, Bool.not_false, w_some, w_none, w_fz0, w_fz1, w_t0, w_t1, w_t2, w_t3, w_t4, w_add, w_addL, w_addT, w_sub, w_subB, w_mul, w_mulL, w_mulT, w_mod, w_div, w_lt, w_le, w_gt, w_ge, w_is, w_isnt, w_n0, w_n1, w_n2, w_n3, w_n4, w_neg, w_atL, w_atT, w_lenL, w_lenT, w_tupL, w_tupT, w_lisL, w_lisT, w_abs, w_int, w_intB, w_gcd, w_min, w_max, w_seqL, w_seqT, w_augA, w_augS, w_augM, w_intQ, w_lstQ, w_rng1, w_rng2, w_zipL, w_zipT, w_zipM, w_zipN, w_enum, w_enumT]
        refine hkk _ ⟨fun x hx => ?_, _, _, _, _, _, _, rfl⟩
        rcases Nat.lt_or_ge x k with h | h
        · exact hu x h
        · rw [show x = k by omega]
          exact c
      · rw [decide_eq_false c]
        simp only [true_and, wpSs, wpS, wpE, wpX, wpO, wpC, wpI, ent, kt0, bindT, bindTs, tgsLen, wipeR, constD, owL, List.map_cons, List.map_nil, List.length_cons, List.length_nil, List.replicate, List.cons_append, List.nil_append, Nat.reduceSub, Nat.reduceAdd, List.getElem?_cons_zero, List.getElem?_cons_succ, List.getElem?_nil, List.set_cons_zero, List.set_cons_succ, opF, cmpF, Bi.fd, Option.map_some, if_true, if_false, Bool.true_eq_false, Bool.false_eq_true, reduceIte, Bool.not_true, Bool.not_false, w_some, w_none, w_fz0, w_fz1, w_t0, w_t1, w_t2, w_t3, w_t4, w_add, w_addL, w_addT, w_sub, w_subB, w_mul, w_mulL, w_mulT, w_mod, w_div, w_lt, w_le, w_gt, w_ge, w_is, w_isnt, w_n0, w_n1, w_n2, w_n3, w_n4, w_neg, w_atL, w_atT, w_lenL, w_lenT, w_tupL, w_tupT, w_lisL, w_lisT, w_abs, w_int, w_intB, w_gcd, w_min, w_max, w_seqL, w_seqT, w_augA, w_augS, w_augM, w_intQ, w_lstQ, w_rng1, w_rng2, w_zipL, w_zipT, w_zipM, w_zipN, w_enum, w_enumT]
        refine hno ?_
        unfold addsB
        rw [List.all_eq_false]
        exact ⟨k, List.mem_range.mpr hk, by simpa [wx] using c⟩
    · simp only [pD, true_and, wpSs, wpS, wpE, wpX, wpO, wpC, wpI, ent, kt0, bindT, bindTs, tgsLen, wipeR, constD, owL, List.map_cons, List.map_nil, List.length_cons, List.length_nil, List.replicate, List.cons_append, List.nil_append, Nat.reduceSub, Nat.reduceAdd, List.getElem?_cons_zero, List.getElem?_cons_succ, List.getElem?_nil, List.set_cons_zero, List.set_cons_succ, opF, cmpF, Bi.fd, Option.map_some, if_true, if_false, Bool.true_eq_false, Bool.false_eq_true, reduceIte, Bool.not_true, Bool.not_false, w_some, w_none, w_fz0, w_fz1, w_t0, w_t1, w_t2, w_t3, w_t4, w_add, w_addL, w_addT, w_sub, w_subB, w_mul, w_mulL, w_mulT, w_mod, w_div, w_lt, w_le, w_gt, w_ge, w_is, w_isnt, w_n0, w_n1, w_n2, w_n3, w_n4, w_neg, w_atL, w_atT, w_lenL, w_lenT, w_tupL, w_tupT, w_lisL, w_lisT, w_abs, w_int, w_intB, w_gcd, w_min, w_max, w_seqL, w_seqT, w_augA, w_augS, w_augM, w_intQ, w_lstQ, w_rng1, w_rng2, w_zipL, w_zipT, w_zipM, w_zipN, w_enum, w_enumT, rowQ, ha]
      exact ht _
  · obtain ⟨hu, y2, y3, y4, y5, y6, y7, rfl⟩ := hI
    have hadd : addsB m w pl = true := by
      unfold addsB
      rw [List.all_eq_true]
      exact fun x hx => decide_eq_true (hu x (List.mem_range.mp hx))
    have hy := hy hadd
    simp only [true_and, wpSs, wpS, wpE, wpX, wpO, wpC, wpI, ent, kt0, bindT, bindTs, tgsLen, wipeR, constD, owL, List.map_cons, List.map_nil, List.length_cons, List.length_nil, List.replicate, List.cons_append, List.nil_append, Nat.reduceSub, Nat.reduceAdd, List.getElem?_cons_zero, List.getElem?_cons_succ, List.getElem?_nil, List.set_cons_zero, List.set_cons_succ, opF, cmpF, Bi.fd, Option.map_some, if_true, if_false, Bool.true_eq_false, Bool.false_eq_true, reduceIte, Bool.not_true, Bool.not_false, w_some, w_none, w_fz0, w_fz1, w_t0, w_t1, w_t2, w_t3, w_t4, w_add, w_addL, w_addT, w_sub, w_subB, w_mul, w_mulL, w_mulT, w_mod, w_div, w_lt, w_le, w_gt, w_ge, w_is, w_isnt, w_n0, w_n1, w_n2, w_n3, w_n4, w_neg, w_atL, w_atT, w_lenL, w_lenT, w_tupL, w_tupT, w_lisL, w_lisT, w_abs, w_int, w_intB, w_gcd, w_min, w_max, w_seqL, w_seqT, w_augA, w_augS, w_augM, w_intQ, w_lstQ, w_rng1, w_rng2, w_zipL, w_zipT, w_zipM, w_zipN, w_enum, w_enumT]
    rw [enumD_map qD 0 w, lw]
    refine forW_ix (I := fun k ρ => ∃ y2 y3 y5 y6 y7, ρ = [some (.fz (.tuple (w.map qD))), some (.fz (.tuple (pl.map pD))), y2, y3, some (.ow (.list ((List.range k).map fun x => rowQ (mkM w pl x)))), y5, y6, y7]) ⟨_, _, _, _, _, rfl⟩ (fun k ρ kk hk hI hkk => ?_) (fun ρ hI => ?_)
    · obtain ⟨y2, y3, y5, y6, y7, rfl⟩ := hI
      rw [List.range_succ, List.map_append, List.map_cons, List.map_nil] at hkk
      have room : ((List.range k).map fun x => rowQ (mkM w pl x)).length < sizeLine := by rw [List.length_map, List.length_range]; exact small1000 (by omega)
      simp only [true_and, wpSs, wpS, wpE, wpX, wpO, wpC, wpI, ent, kt0, bindT, bindTs, tgsLen, wipeR, constD, owL, List.map_cons, List.map_nil, List.length_cons, List.length_nil, List.replicate, List.cons_append, List.nil_append, Nat.reduceSub, Nat.reduceAdd, List.getElem?_cons_zero, List.getElem?_cons_succ, List.getElem?_nil, List.set_cons_zero, List.set_cons_succ, opF, cmpF, Bi.fd, Option.map_some, if_true, if_false, Bool.true_eq_false, Bool.false_eq_true, reduceIte, Bool.not_true, Bool.not_false, w_some, w_none, w_fz0, w_fz1, w_t0, w_t1, w_t2, w_t3, w_t4, w_add, w_addL, w_addT, w_sub, w_subB, w_mul, w_mulL, w_mulT, w_mod, w_div, w_lt, w_le, w_gt, w_ge, w_is, w_isnt, w_n0, w_n1, w_n2, w_n3, w_n4, w_neg, w_atL, w_atT, w_lenL, w_lenT, w_tupL, w_tupT, w_lisL, w_lisT, w_abs, w_int, w_intB, w_gcd, w_min, w_max, w_seqL, w_seqT, w_augA, w_augS, w_augM, w_intQ, w_lstQ, w_rng1, w_rng2, w_zipL, w_zipT, w_zipM, w_zipN, w_enum, w_enumT]
      refine dEqQ ?_
      by_cases c : w.getD k 0 = 0
      · rw [decide_eq_true c]
        simp only [true_and, wpSs, wpS, wpE, wpX, wpO, wpC, wpI, ent, kt0, bindT, bindTs, tgsLen, wipeR, constD, owL, List.map_cons, List.map_nil, List.length_cons, List.length_nil, List.replicate, List.cons_append, List.nil_append, Nat.reduceSub, Nat.reduceAdd, List.getElem?_cons_zero, List.getElem?_cons_succ, List.getElem?_nil, List.set_cons_zero, List.set_cons_succ, opF, cmpF, Bi.fd, Option.map_some, if_true, if_false, Bool.true_eq_false, Bool.false_eq_true, reduceIte, Bool.not_true, Bool.not_false, w_some, w_none, w_fz0, w_fz1, w_t0, w_t1, w_t2, w_t3, w_t4, w_add, w_addL, w_addT, w_sub, w_subB, w_mul, w_mulL, w_mulT, w_mod, w_div, w_lt, w_le, w_gt, w_ge, w_is, w_isnt, w_n0, w_n1, w_n2, w_n3, w_n4, w_neg, w_atL, w_atT, w_lenL, w_lenT, w_tupL, w_tupT, w_lisL, w_lisT, w_abs, w_int, w_intB, w_gcd, w_min, w_max, w_seqL, w_seqT, w_augA, w_augS, w_augM, w_intQ, w_lstQ, w_rng1, w_rng2, w_zipL, w_zipT, w_zipM, w_zipN, w_enum, w_enumT]
        refine ⟨by rw [List.length_map]; exact small (by omega), ?_⟩
        refine foldW_map (fun p => qD p.2) (fun p acc k2 hp hk2 => ?_) ?_
        · simp only [pD, true_and, wpSs, wpS, wpE, wpX, wpO, wpC, wpI, ent, kt0, bindT, bindTs, tgsLen, wipeR, constD, owL, List.map_cons, List.map_nil, List.length_cons, List.length_nil, List.replicate, List.cons_append, List.nil_append, Nat.reduceSub, Nat.reduceAdd, List.getElem?_cons_zero, List.getElem?_cons_succ, List.getElem?_nil, List.set_cons_zero, List.set_cons_succ, opF, cmpF, Bi.fd, Option.map_some, if_true, if_false, Bool.true_eq_false, Bool.false_eq_true, reduceIte, Bool.not_true, Bool.not_false, w_some, w_none, w_fz0, w_fz1, w_t0, w_t1, w_t2, w_t3, w_t4, w_add, w_addL, w_addT, w_sub, w_subB, w_mul, w_mulL, w_mulT, w_mod, w_div, w_lt, w_le, w_gt, w_ge, w_is, w_isnt, w_n0, w_n1, w_n2, w_n3, w_n4, w_neg, w_atL, w_atT, w_lenL, w_lenT, w_tupL, w_tupT, w_lisL, w_lisT, w_abs, w_int, w_intB, w_gcd, w_min, w_max, w_seqL, w_seqT, w_augA, w_augS, w_augM, w_intQ, w_lstQ, w_rng1, w_rng2, w_zipL, w_zipT, w_zipM, w_zipN, w_enum, w_enumT]
          exact hk2
        · refine ⟨room, ?_⟩
          have em : rowQ (mkM w pl k) = .tuple (pl.map fun p => qD p.2) := by
            unfold mkM rowQ
            rw [if_pos (show wx w k = 0 from c), List.map_map]
            rfl
          rw [em] at hkk
          exact hkk _ ⟨_, _, _, _, _, rfl⟩
      · rw [decide_eq_false c]
        simp only [true_and, wpSs, wpS, wpE, wpX, wpO, wpC, wpI, ent, kt0, bindT, bindTs, tgsLen, wipeR, constD, owL, List.map_cons, List.map_nil, List.length_cons, List.length_nil, List.replicate, List.cons_append, List.nil_append, Nat.reduceSub, Nat.reduceAdd, List.getElem?_cons_zero, List.getElem?_cons_succ, List.getElem?_nil, List.set_cons_zero, List.set_cons_succ, opF, cmpF, Bi.fd, Option.map_some, if_true, if_false, Bool.true_eq_false, Bool.false_eq_true, reduceIte, Bool.not_true, Bool.not_false, w_some, w_none, w_fz0, w_fz1, w_t0, w_t1, w_t2, w_t3, w_t4, w_add, w_addL, w_addT, w_sub, w_subB, w_mul, w_mulL, w_mulT, w_mod, w_div, w_lt, w_le, w_gt, w_ge, w_is, w_isnt, w_n0, w_n1, w_n2, w_n3, w_n4, w_neg, w_atL, w_atT, w_lenL, w_lenT, w_tupL, w_tupT, w_lisL, w_lisT, w_abs, w_int, w_intB, w_gcd, w_min, w_max, w_seqL, w_seqT, w_augA, w_augS, w_augM, w_intQ, w_lstQ, w_rng1, w_rng2, w_zipL, w_zipT, w_zipM, w_zipN, w_enum, w_enumT]
        refine ⟨by rw [List.length_map]; exact small (by omega), ?_⟩
        refine foldW_map (fun p => qD (p.2 * p.1.getD k 0 / w.getD k 0)) (fun p acc k2 hp hk2 => ?_) ?_
        · have hl := ok.pl.rl p hp
          have hs1 := ok.pl.ss p hp
          have hs2 := ok.pl.rs p hp _ (getD_mem (k := k) 0 (by omega))
          simp only [pD, true_and, wpSs, wpS, wpE, wpX, wpO, wpC, wpI, ent, kt0, bindT, bindTs, tgsLen, wipeR, constD, owL, List.map_cons, List.map_nil, List.length_cons, List.length_nil, List.replicate, List.cons_append, List.nil_append, Nat.reduceSub, Nat.reduceAdd, List.getElem?_cons_zero, List.getElem?_cons_succ, List.getElem?_nil, List.set_cons_zero, List.set_cons_succ, opF, cmpF, Bi.fd, Option.map_some, if_true, if_false, Bool.true_eq_false, Bool.false_eq_true, reduceIte, Bool.not_true, Bool.not_false, w_some, w_none, w_fz0, w_fz1, w_t0, w_t1, w_t2, w_t3, w_t4, w_add, w_addL, w_addT, w_sub, w_subB, w_mul, w_mulL, w_mulT, w_mod, w_div, w_lt, w_le, w_gt, w_ge, w_is, w_isnt, w_n0, w_n1, w_n2, w_n3, w_n4, w_neg, w_atL, w_atT, w_lenL, w_lenT, w_tupL, w_tupT, w_lisL, w_lisT, w_abs, w_int, w_intB, w_gcd, w_min, w_max, w_seqL, w_seqT, w_augA, w_augS, w_augM, w_intQ, w_lstQ, w_rng1, w_rng2, w_zipL, w_zipT, w_zipM, w_zipN, w_enum, w_enumT, rowQ, at_qD (l := p.1) (x := k) (by omega)]
          refine ⟨_, _, 380, 89, rfl, hs1, hs2, by decide, ?_⟩
          exact ⟨_, _, 469, 7, rfl, hs1.mul hs2 (by decide), ok.sw _ (getD_mem 0 (by omega)), by decide, c, hk2⟩
        · refine ⟨room, ?_⟩
          have em : rowQ (mkM w pl k) = .tuple (pl.map fun p => qD (p.2 * p.1.getD k 0 / w.getD k 0)) := by
            unfold mkM rowQ
            rw [if_neg (show ¬ wx w k = 0 from c), List.map_map]
            rfl
          rw [em] at hkk
          exact hkk _ ⟨_, _, _, _, _, rfl⟩
    · obtain ⟨y2, y3, y5, y6, y7, rfl⟩ := hI
      simp only [true_and, wpSs, wpS, wpE, wpX, wpO, wpC, wpI, ent, kt0, bindT, bindTs, tgsLen, wipeR, constD, owL, List.map_cons, List.map_nil, List.length_cons, List.length_nil, List.replicate, List.cons_append, List.nil_append, Nat.reduceSub, Nat.reduceAdd, List.getElem?_cons_zero, List.getElem?_cons_succ, List.getElem?_nil, List.set_cons_zero, List.set_cons_succ, opF, cmpF, Bi.fd, Option.map_some, if_true, if_false, Bool.true_eq_false, Bool.false_eq_true, reduceIte, Bool.not_true, Bool.not_false, w_some, w_none, w_fz0, w_fz1, w_t0, w_t1, w_t2, w_t3, w_t4, w_add, w_addL, w_addT, w_sub, w_subB, w_mul, w_mulL, w_mulT, w_mod, w_div, w_lt, w_le, w_gt, w_ge, w_is, w_isnt, w_n0, w_n1, w_n2, w_n3, w_n4, w_neg, w_atL, w_atT, w_lenL, w_lenT, w_tupL, w_tupT, w_lisL, w_lisT, w_abs, w_int, w_intB, w_gcd, w_min, w_max, w_seqL, w_seqT, w_augA, w_augS, w_augM, w_intQ, w_lstQ, w_rng1, w_rng2, w_zipL, w_zipT, w_zipM, w_zipN, w_enum, w_enumT]
      unfold made chQ at hy
      rw [List.map_map] at hy
      exact hy
theorem imp__law_told (e1 : Γ.Φ "channel_of_spread" = φ_channel_of_spread) (hx : ("Missing" : Str) ∈ Γ.exs) (as : List Sl) (P : D → Prop) (PE : Str → Prop) (h : φ__law_told as P PE) : spW Γ d__law_told as P PE := by
  obtain ⟨m, w, pl, rfl, ok, hy, hno⟩ := h
  refine ⟨rfl, ?_⟩
  simp only [d__law_told, true_and, wpSs, wpS, wpE, wpX, wpO, wpC, wpI, ent, kt0, bindT, bindTs, tgsLen, wipeR, constD, owL, List.map_cons, List.map_nil, List.length_cons, List.length_nil, List.replicate, List.cons_append, List.nil_append, Nat.reduceSub, Nat.reduceAdd, List.getElem?_cons_zero, List.getElem?_cons_succ, List.getElem?_nil, List.set_cons_zero, List.set_cons_succ, opF, cmpF, Bi.fd, Option.map_some, if_true, if_false, Bool.true_eq_false, Bool.false_eq_true, reduceIte, Bool.not_true, Bool.not_false, w_some, w_none, w_fz0, w_fz1, w_t0, w_t1, w_t2, w_t3, w_t4, w_add, w_addL, w_addT, w_sub, w_subB, w_mul, w_mulL, w_mulT, w_mod, w_div, w_lt, w_le, w_gt, w_ge, w_is, w_isnt, w_n0, w_n1, w_n2, w_n3, w_n4, w_neg, w_atL, w_atT, w_lenL, w_lenT, w_tupL, w_tupT, w_lisL, w_lisT, w_abs, w_int, w_intB, w_gcd, w_min, w_max, w_seqL, w_seqT, w_augA, w_augS, w_augM, w_intQ, w_lstQ, w_rng1, w_rng2, w_zipL, w_zipT, w_zipM, w_zipN, w_enum, w_enumT, e1]
  refine ⟨m, w, pl, rfl, ok, hy, fun h => ⟨hx, ?_⟩⟩
  rw [if_pos rfl]
  exact hno h
theorem imp__law_adds_up (e1 : Γ.Φ "_law_total" = φ__law_total) (e2 : Γ.Φ "_law_times" = φ__law_times) (as : List Sl) (P : D → Prop) (PE : Str → Prop) (h : φ__law_adds_up as P PE) : spW Γ d__law_adds_up as P PE := by
  obtain ⟨m, w, pl, rfl, ok, hP⟩ := h
  refine ⟨rfl, ?_⟩
  have m4 := ok.m4
  have lw := ok.lw
  simp only [d__law_adds_up, true_and, wpSs, wpS, wpE, wpX, wpO, wpC, wpI, ent, kt0, bindT, bindTs, tgsLen, wipeR, constD, owL, List.map_cons, List.map_nil, List.length_cons, List.length_nil, List.replicate, List.cons_append, List.nil_append, Nat.reduceSub, Nat.reduceAdd, List.getElem?_cons_zero, List.getElem?_cons_succ, List.getElem?_nil, List.set_cons_zero, List.set_cons_succ, opF, cmpF, Bi.fd, Option.map_some, if_true, if_false, Bool.true_eq_false, Bool.false_eq_true, reduceIte, Bool.not_true, Bool.not_false, w_some, w_none, w_fz0, w_fz1, w_t0, w_t1, w_t2, w_t3, w_t4, w_add, w_addL, w_addT, w_sub, w_subB, w_mul, w_mulL, w_mulT, w_mod, w_div, w_lt, w_le, w_gt, w_ge, w_is, w_isnt, w_n0, w_n1, w_n2, w_n3, w_n4, w_neg, w_atL, w_atT, w_lenL, w_lenT, w_tupL, w_tupT, w_lisL, w_lisT, w_abs, w_int, w_intB, w_gcd, w_min, w_max, w_seqL, w_seqT, w_augA, w_augS, w_augM, w_intQ, w_lstQ, w_rng1, w_rng2, w_zipL, w_zipT, w_zipM, w_zipN, w_enum, w_enumT, e1, e2, rowQ, plD, List.length_map, lw]
  refine ⟨rngOk_small (by omega) (by omega), ?_⟩
  rw [Int.toNat_natCast, rangeD0]
  refine forW_ix (I := fun k ρ => (∀ x, x < k → qsum (pl.map fun p => p.2 * p.1.getD x 0) = wx w x) ∧ ∃ y2 y3 y4, ρ = [some (.fz (.tuple (w.map qD))), some (.fz (.tuple (pl.map pD))), y2, y3, y4]) ⟨fun x hx => absurd hx (by omega), none, none, none, rfl⟩ (fun k ρ kk hk hI hkk => ?_) (fun ρ hI => ?_)
  · obtain ⟨hu, y2, y3, y4, rfl⟩ := hI
    simp only [true_and, wpSs, wpS, wpE, wpX, wpO, wpC, wpI, ent, kt0, bindT, bindTs, tgsLen, wipeR, constD, owL, List.map_cons, List.map_nil, List.length_cons, List.length_nil, List.replicate, List.cons_append, List.nil_append, Nat.reduceSub, Nat.reduceAdd, List.getElem?_cons_zero, List.getElem?_cons_succ, List.getElem?_nil, List.set_cons_zero, List.set_cons_succ, opF, cmpF, Bi.fd, Option.map_some, if_true, if_false, Bool.true_eq_false, Bool.false_eq_true, reduceIte, Bool.not_true, Bool.not_false, w_some, w_none, w_fz0, w_fz1, w_t0, w_t1, w_t2, w_t3, w_t4, w_add, w_addL, w_addT, w_sub, w_subB, w_mul, w_mulL, w_mulT, w_mod, w_div, w_lt, w_le, w_gt, w_ge, w_is, w_isnt, w_n0, w_n1, w_n2, w_n3, w_n4, w_neg, w_atL, w_atT, w_lenL, w_lenT, w_tupL, w_tupT, w_lisL, w_lisT, w_abs, w_int, w_intB, w_gcd, w_min, w_max, w_seqL, w_seqT, w_augA, w_augS, w_augM, w_intQ, w_lstQ, w_rng1, w_rng2, w_zipL, w_zipT, w_zipM, w_zipN, w_enum, w_enumT]
    refine plan_fold ok hk φ__law_total rfl ?_ fun p acc k2 hp ha ht => ?_
    · simp only [true_and, wpSs, wpS, wpE, wpX, wpO, wpC, wpI, ent, kt0, bindT, bindTs, tgsLen, wipeR, constD, owL, List.map_cons, List.map_nil, List.length_cons, List.length_nil, List.replicate, List.cons_append, List.nil_append, Nat.reduceSub, Nat.reduceAdd, List.getElem?_cons_zero, List.getElem?_cons_succ, List.getElem?_nil, List.set_cons_zero, List.set_cons_succ, opF, cmpF, Bi.fd, Option.map_some, if_true, if_false, Bool.true_eq_false, Bool.false_eq_true, reduceIte, Bool.not_true, Bool.not_false, w_some, w_none, w_fz0, w_fz1, w_t0, w_t1, w_t2, w_t3, w_t4, w_add, w_addL, w_addT, w_sub, w_subB, w_mul, w_mulL, w_mulT, w_mod, w_div, w_lt, w_le, w_gt, w_ge, w_is, w_isnt, w_n0, w_n1, w_n2, w_n3, w_n4, w_neg, w_atL, w_atT, w_lenL, w_lenT, w_tupL, w_tupT, w_lisL, w_lisT, w_abs, w_int, w_intB, w_gcd, w_min, w_max, w_seqL, w_seqT, w_augA, w_augS, w_augM, w_intQ, w_lstQ, w_rng1, w_rng2, w_zipL, w_zipT, w_zipM, w_zipN, w_enum, w_enumT, at_qD (l := w) (x := k) (by omega)]
      refine dNeQ ?_
      by_cases c : qsum (pl.map fun p => p.2 * p.1.getD k 0) = w.getD k 0
      · rw [decide_eq_true c]
        simp only [true_and, wpSs, wpS, wpE, wpX, wpO, wpC, wpI, ent, kt0, bindT, bindTs, tgsLen, wipeR, constD, owL, List.map_cons, List.map_nil, List.length_cons, List.length_nil, List.replicate, List.cons_append, List.nil_append, Nat.reduceSub, Nat.reduceAdd, List.getElem?_cons_zero, List.getElem?_cons_succ, List.getElem?_nil, List.set_cons_zero, List.set_cons_succ, opF, cmpF, Bi.fd, Option.map_some, if_true, if_false, Bool.true_eq_false, Bool.false_eq_true, reduceIte, Bool.not_true, Bool.not_false, w_some, w_none, w_fz0, w_fz1, w_t0, w_t1, w_t2, w_t3, w_t4, w_add, w_addL, w_addT, w_sub, w_subB, w_mul, w_mulL, w_mulT, w_mod, w_div, w_lt, w_le, w_gt, w_ge, w_is, w_isnt, w_n0, w_n1, w_n2, w_n3, w_n4, w_neg, w_atL, w_atT, w_lenL, w_lenT, w_tupL, w_tupT, w_lisL, w_lisT, w_abs, w_int, w_intB, w_gcd, w_min, w_max, w_seqL, w_seqT, w_augA, w_augS, w_augM, w_intQ, w_lstQ, w_rng1, w_rng2, w_zipL, w_zipT, w_zipM, w_zipN, w_enum, w_enumT]
        refine hkk _ ⟨fun x hx => ?_, _, _, _, rfl⟩
        rcases Nat.lt_or_ge x k with h | h
        · exact hu x h
        · rw [show x = k by omega]
          exact c
      · rw [decide_eq_false c]
        simp only [true_and, wpSs, wpS, wpE, wpX, wpO, wpC, wpI, ent, kt0, bindT, bindTs, tgsLen, wipeR, constD, owL, List.map_cons, List.map_nil, List.length_cons, List.length_nil, List.replicate, List.cons_append, List.nil_append, Nat.reduceSub, Nat.reduceAdd, List.getElem?_cons_zero, List.getElem?_cons_succ, List.getElem?_nil, List.set_cons_zero, List.set_cons_succ, opF, cmpF, Bi.fd, Option.map_some, if_true, if_false, Bool.true_eq_false, Bool.false_eq_true, reduceIte, Bool.not_true, Bool.not_false, w_some, w_none, w_fz0, w_fz1, w_t0, w_t1, w_t2, w_t3, w_t4, w_add, w_addL, w_addT, w_sub, w_subB, w_mul, w_mulL, w_mulT, w_mod, w_div, w_lt, w_le, w_gt, w_ge, w_is, w_isnt, w_n0, w_n1, w_n2, w_n3, w_n4, w_neg, w_atL, w_atT, w_lenL, w_lenT, w_tupL, w_tupT, w_lisL, w_lisT, w_abs, w_int, w_intB, w_gcd, w_min, w_max, w_seqL, w_seqT, w_augA, w_augS, w_augM, w_intQ, w_lstQ, w_rng1, w_rng2, w_zipL, w_zipT, w_zipM, w_zipN, w_enum, w_enumT]
        have : addsB m w pl = false := by
          unfold addsB
          rw [List.all_eq_false]
          exact ⟨k, List.mem_range.mpr hk, by simpa [wx] using c⟩
        rw [this] at hP
        exact hP
    · simp only [pD, true_and, wpSs, wpS, wpE, wpX, wpO, wpC, wpI, ent, kt0, bindT, bindTs, tgsLen, wipeR, constD, owL, List.map_cons, List.map_nil, List.length_cons, List.length_nil, List.replicate, List.cons_append, List.nil_append, Nat.reduceSub, Nat.reduceAdd, List.getElem?_cons_zero, List.getElem?_cons_succ, List.getElem?_nil, List.set_cons_zero, List.set_cons_succ, opF, cmpF, Bi.fd, Option.map_some, if_true, if_false, Bool.true_eq_false, Bool.false_eq_true, reduceIte, Bool.not_true, Bool.not_false, w_some, w_none, w_fz0, w_fz1, w_t0, w_t1, w_t2, w_t3, w_t4, w_add, w_addL, w_addT, w_sub, w_subB, w_mul, w_mulL, w_mulT, w_mod, w_div, w_lt, w_le, w_gt, w_ge, w_is, w_isnt, w_n0, w_n1, w_n2, w_n3, w_n4, w_neg, w_atL, w_atT, w_lenL, w_lenT, w_tupL, w_tupT, w_lisL, w_lisT, w_abs, w_int, w_intB, w_gcd, w_min, w_max, w_seqL, w_seqT, w_augA, w_augS, w_augM, w_intQ, w_lstQ, w_rng1, w_rng2, w_zipL, w_zipT, w_zipM, w_zipN, w_enum, w_enumT, rowQ, ha]
      exact ht _
  · obtain ⟨hu, y2, y3, y4, rfl⟩ := hI
    have : addsB m w pl = true := by
      unfold addsB
      rw [List.all_eq_true]
      exact fun x hx => decide_eq_true (hu x (List.mem_range.mp hx))
    rw [this] at hP
    exact hP
theorem cmp_ge (p q : Rat) : decide (cmpQ p q ≥ 0) = decide (q ≤ p) := decide_eq_decide.mpr (by
  unfold cmpQ
  split
  · rename_i h
    exact ⟨fun _ => by grind, fun _ => by decide⟩
  · split
    · rename_i h1 h2
      exact ⟨fun h => absurd h (by decide), fun h => by grind⟩
    · exact ⟨fun _ => by grind, fun _ => by decide⟩)
theorem imp_falling (e1 : Γ.Φ "compare" = φ_compare) (as : List Sl) (P : D → Prop) (PE : Str → Prop) (h : φ_falling as P PE) : spW Γ d_falling as P PE := by
  obtain ⟨b, l, s, rfl, ok, hP⟩ := h
  refine ⟨rfl, ?_⟩
  have l4 := ok.len
  have sb := ok.b
  simp only [d_falling, true_and, wpSs, wpS, wpE, wpX, wpO, wpC, wpI, ent, kt0, bindT, bindTs, tgsLen, wipeR, constD, owL, List.map_cons, List.map_nil, List.length_cons, List.length_nil, List.replicate, List.cons_append, List.nil_append, Nat.reduceSub, Nat.reduceAdd, List.getElem?_cons_zero, List.getElem?_cons_succ, List.getElem?_nil, List.set_cons_zero, List.set_cons_succ, opF, cmpF, Bi.fd, Option.map_some, if_true, if_false, Bool.true_eq_false, Bool.false_eq_true, reduceIte, Bool.not_true, Bool.not_false, w_some, w_none, w_fz0, w_fz1, w_t0, w_t1, w_t2, w_t3, w_t4, w_add, w_addL, w_addT, w_sub, w_subB, w_mul, w_mulL, w_mulT, w_mod, w_div, w_lt, w_le, w_gt, w_ge, w_is, w_isnt, w_n0, w_n1, w_n2, w_n3, w_n4, w_neg, w_atL, w_atT, w_lenL, w_lenT, w_tupL, w_tupT, w_lisL, w_lisT, w_abs, w_int, w_intB, w_gcd, w_min, w_max, w_seqL, w_seqT, w_augA, w_augS, w_augM, w_intQ, w_lstQ, w_rng1, w_rng2, w_zipL, w_zipT, w_zipM, w_zipN, w_enum, w_enumT, e1]
  refine seqOf_seqD (forW_inv (I := fun done ρ => ∃ f : List Rat, f.Perm done ∧ f.Pairwise (fun a b => b ≤ a) ∧ ∃ y2 y3 y4, ρ = [some (.fz (seqD b (l.map qD))), some (.ow (.list (f.map qD))), y2, y3, y4]) ⟨[], .refl _, .nil, none, none, none, rfl⟩ (fun done x rest ρ kk el hI hkk => ?_) (fun ρ hI => ?_))
  · obtain ⟨f, hp, hd, y2, y3, y4, rfl⟩ := hI
    have hx : Sz s x := ok.sz x (by rw [el]; simp)
    have lf : f.length < 4 := by rw [hp.length_eq]; rw [el] at l4; simp at l4; omega
    simp only [true_and, wpSs, wpS, wpE, wpX, wpO, wpC, wpI, ent, kt0, bindT, bindTs, tgsLen, wipeR, constD, owL, List.map_cons, List.map_nil, List.length_cons, List.length_nil, List.replicate, List.cons_append, List.nil_append, Nat.reduceSub, Nat.reduceAdd, List.getElem?_cons_zero, List.getElem?_cons_succ, List.getElem?_nil, List.set_cons_zero, List.set_cons_succ, opF, cmpF, Bi.fd, Option.map_some, if_true, if_false, Bool.true_eq_false, Bool.false_eq_true, reduceIte, Bool.not_true, Bool.not_false, w_some, w_none, w_fz0, w_fz1, w_t0, w_t1, w_t2, w_t3, w_t4, w_add, w_addL, w_addT, w_sub, w_subB, w_mul, w_mulL, w_mulT, w_mod, w_div, w_lt, w_le, w_gt, w_ge, w_is, w_isnt, w_n0, w_n1, w_n2, w_n3, w_n4, w_neg, w_atL, w_atT, w_lenL, w_lenT, w_tupL, w_tupT, w_lisL, w_lisT, w_abs, w_int, w_intB, w_gcd, w_min, w_max, w_seqL, w_seqT, w_augA, w_augS, w_augM, w_intQ, w_lstQ, w_rng1, w_rng2, w_zipL, w_zipT, w_zipM, w_zipN, w_enum, w_enumT]
    refine ⟨by rw [List.length_map]; exact small (by omega), ?_⟩
    refine foldW_filter (fun o => decide (x ≤ o)) qD (fun o acc k2 ho hk2 => ?_) ?_
    · have hos : Sz s o := ok.sz o (by rw [el]; exact List.mem_append.mpr (.inl (hp.mem_iff.mp ho)))
      refine ⟨o, x, s, s, rfl, hos, hx, by omega, ?_⟩
      simp only [true_and, wpSs, wpS, wpE, wpX, wpO, wpC, wpI, ent, kt0, bindT, bindTs, tgsLen, wipeR, constD, owL, List.map_cons, List.map_nil, List.length_cons, List.length_nil, List.replicate, List.cons_append, List.nil_append, Nat.reduceSub, Nat.reduceAdd, List.getElem?_cons_zero, List.getElem?_cons_succ, List.getElem?_nil, List.set_cons_zero, List.set_cons_succ, opF, cmpF, Bi.fd, Option.map_some, if_true, if_false, Bool.true_eq_false, Bool.false_eq_true, reduceIte, Bool.not_true, Bool.not_false, w_some, w_none, w_fz0, w_fz1, w_t0, w_t1, w_t2, w_t3, w_t4, w_add, w_addL, w_addT, w_sub, w_subB, w_mul, w_mulL, w_mulT, w_mod, w_div, w_lt, w_le, w_gt, w_ge, w_is, w_isnt, w_n0, w_n1, w_n2, w_n3, w_n4, w_neg, w_atL, w_atT, w_lenL, w_lenT, w_tupL, w_tupT, w_lisL, w_lisT, w_abs, w_int, w_intB, w_gcd, w_min, w_max, w_seqL, w_seqT, w_augA, w_augS, w_augM, w_intQ, w_lstQ, w_rng1, w_rng2, w_zipL, w_zipT, w_zipM, w_zipN, w_enum, w_enumT, cmp_ge]
      exact kif hk2
    · obtain ⟨h1, h2⟩ := ins_ok x f hd
      have lk := List.length_filter_le (fun o => decide (x ≤ o)) f
      simp only [true_and, wpSs, wpS, wpE, wpX, wpO, wpC, wpI, ent, kt0, bindT, bindTs, tgsLen, wipeR, constD, owL, List.map_cons, List.map_nil, List.length_cons, List.length_nil, List.replicate, List.cons_append, List.nil_append, Nat.reduceSub, Nat.reduceAdd, List.getElem?_cons_zero, List.getElem?_cons_succ, List.getElem?_nil, List.set_cons_zero, List.set_cons_succ, opF, cmpF, Bi.fd, Option.map_some, if_true, if_false, Bool.true_eq_false, Bool.false_eq_true, reduceIte, Bool.not_true, Bool.not_false, w_some, w_none, w_fz0, w_fz1, w_t0, w_t1, w_t2, w_t3, w_t4, w_add, w_addL, w_addT, w_sub, w_subB, w_mul, w_mulL, w_mulT, w_mod, w_div, w_lt, w_le, w_gt, w_ge, w_is, w_isnt, w_n0, w_n1, w_n2, w_n3, w_n4, w_neg, w_atL, w_atT, w_lenL, w_lenT, w_tupL, w_tupT, w_lisL, w_lisT, w_abs, w_int, w_intB, w_gcd, w_min, w_max, w_seqL, w_seqT, w_augA, w_augS, w_augM, w_intQ, w_lstQ, w_rng1, w_rng2, w_zipL, w_zipT, w_zipM, w_zipN, w_enum, w_enumT, List.length_map]
      refine ⟨small1000 (by omega), by omega, by omega, ?_⟩
      rw [Int.toNat_natCast, ← List.map_take, ← List.map_drop]
      refine hkk _ ⟨_, h2.trans (hp.append_right [x]), h1, some (.fz (qD x)), some (.fz (.int (f.filter fun o => decide (x ≤ o)).length)), y4, ?_⟩
      rw [List.map_append, List.map_append, List.map_cons, List.map_nil]
  · obtain ⟨f, hp, hd, y2, y3, y4, rfl⟩ := hI
    simp only [true_and, wpSs, wpS, wpE, wpX, wpO, wpC, wpI, ent, kt0, bindT, bindTs, tgsLen, wipeR, constD, owL, List.map_cons, List.map_nil, List.length_cons, List.length_nil, List.replicate, List.cons_append, List.nil_append, Nat.reduceSub, Nat.reduceAdd, List.getElem?_cons_zero, List.getElem?_cons_succ, List.getElem?_nil, List.set_cons_zero, List.set_cons_succ, opF, cmpF, Bi.fd, Option.map_some, if_true, if_false, Bool.true_eq_false, Bool.false_eq_true, reduceIte, Bool.not_true, Bool.not_false, w_some, w_none, w_fz0, w_fz1, w_t0, w_t1, w_t2, w_t3, w_t4, w_add, w_addL, w_addT, w_sub, w_subB, w_mul, w_mulL, w_mulT, w_mod, w_div, w_lt, w_le, w_gt, w_ge, w_is, w_isnt, w_n0, w_n1, w_n2, w_n3, w_n4, w_neg, w_atL, w_atT, w_lenL, w_lenT, w_tupL, w_tupT, w_lisL, w_lisT, w_abs, w_int, w_intB, w_gcd, w_min, w_max, w_seqL, w_seqT, w_augA, w_augS, w_augM, w_intQ, w_lstQ, w_rng1, w_rng2, w_zipL, w_zipT, w_zipM, w_zipN, w_enum, w_enumT]
    exact hP f hp hd
theorem imp_guesses_for (e0 : Γ.gl.lookup ("NOTHING" : Str) = some (qD 0)) (e1 : Γ.Φ "falling" = φ_falling) (e2 : Γ.Φ "plus" = φ_plus) (e3 : Γ.Φ "times" = φ_times) (as : List Sl) (P : D → Prop) (PE : Str → Prop) (h : φ_guesses_for as P PE) : spW Γ d_guesses_for as P PE := by
  obtain ⟨b, l, s, rfl, ok, hP⟩ := h
  refine ⟨rfl, ?_⟩
  have sb := ok.b
  simp only [d_guesses_for, true_and, wpSs, wpS, wpE, wpX, wpO, wpC, wpI, ent, kt0, bindT, bindTs, tgsLen, wipeR, constD, owL, List.map_cons, List.map_nil, List.length_cons, List.length_nil, List.replicate, List.cons_append, List.nil_append, Nat.reduceSub, Nat.reduceAdd, List.getElem?_cons_zero, List.getElem?_cons_succ, List.getElem?_nil, List.set_cons_zero, List.set_cons_succ, opF, cmpF, Bi.fd, Option.map_some, if_true, if_false, Bool.true_eq_false, Bool.false_eq_true, reduceIte, Bool.not_true, Bool.not_false, w_some, w_none, w_fz0, w_fz1, w_t0, w_t1, w_t2, w_t3, w_t4, w_add, w_addL, w_addT, w_sub, w_subB, w_mul, w_mulL, w_mulT, w_mod, w_div, w_lt, w_le, w_gt, w_ge, w_is, w_isnt, w_n0, w_n1, w_n2, w_n3, w_n4, w_neg, w_atL, w_atT, w_lenL, w_lenT, w_tupL, w_tupT, w_lisL, w_lisT, w_abs, w_int, w_intB, w_gcd, w_min, w_max, w_seqL, w_seqT, w_augA, w_augS, w_augM, w_intQ, w_lstQ, w_rng1, w_rng2, w_zipL, w_zipT, w_zipM, w_zipN, w_enum, w_enumT, e0, e1, e2, e3]
  refine ⟨b, l, s, rfl, ok, fun f hp hd => ?_⟩
  have lf : f.length ≤ 4 := by rw [hp.length_eq]; exact ok.len
  have hs : ∀ x ∈ f, Sz s x := fun x hx => ok.sz x (hp.mem_iff.mp hx)
  have su := gsl_sums lf hs
  have eG : G l = qsum (gsl f) := by rw [← G_perm hp, G_desc f hd]
  have hbig : sumSz 4 (s + 3) ≤ 600 := by unfold sumSz; omega
  simp only [true_and, wpSs, wpS, wpE, wpX, wpO, wpC, wpI, ent, kt0, bindT, bindTs, tgsLen, wipeR, constD, owL, List.map_cons, List.map_nil, List.length_cons, List.length_nil, List.replicate, List.cons_append, List.nil_append, Nat.reduceSub, Nat.reduceAdd, List.getElem?_cons_zero, List.getElem?_cons_succ, List.getElem?_nil, List.set_cons_zero, List.set_cons_succ, opF, cmpF, Bi.fd, Option.map_some, if_true, if_false, Bool.true_eq_false, Bool.false_eq_true, reduceIte, Bool.not_true, Bool.not_false, w_some, w_none, w_fz0, w_fz1, w_t0, w_t1, w_t2, w_t3, w_t4, w_add, w_addL, w_addT, w_sub, w_subB, w_mul, w_mulL, w_mulT, w_mod, w_div, w_lt, w_le, w_gt, w_ge, w_is, w_isnt, w_n0, w_n1, w_n2, w_n3, w_n4, w_neg, w_atL, w_atT, w_lenL, w_lenT, w_tupL, w_tupT, w_lisL, w_lisT, w_abs, w_int, w_intB, w_gcd, w_min, w_max, w_seqL, w_seqT, w_augA, w_augS, w_augM, w_intQ, w_lstQ, w_rng1, w_rng2, w_zipL, w_zipT, w_zipM, w_zipN, w_enum, w_enumT]
  rw [enumD_map qD 0 f]
  refine forW_ix (I := fun k ρ => k ≤ f.length ∧ ∃ y2 y3, ρ = [some (.fz (seqD b (l.map qD))), some (.fz (qD (qsum ((List.range k).map fun j => ((((j : Nat) : Int) + 1 : Int) : Rat) * f.getD j 0)))), y2, y3]) ⟨Nat.zero_le _, none, none, rfl⟩ (fun k ρ kk hk hI hkk => ?_) (fun ρ hI => ?_)
  · obtain ⟨_, y2, y3, rfl⟩ := hI
    have h1 := su.su _ _ (gsl_take f k (by omega))
    have h2 : Sz (sumSz 4 (s + 3)) (((((k : Nat) : Int) + 1 : Int) : Rat) * f.getD k 0) := su.it _ (List.mem_map.mpr ⟨k, List.mem_range.mpr hk, rfl⟩)
    have h3 := hs _ (getD_mem (k := k) 0 hk)
    rw [List.range_succ, List.map_append, List.map_cons, List.map_nil, qsum_snoc] at hkk
    simp only [true_and, wpSs, wpS, wpE, wpX, wpO, wpC, wpI, ent, kt0, bindT, bindTs, tgsLen, wipeR, constD, owL, List.map_cons, List.map_nil, List.length_cons, List.length_nil, List.replicate, List.cons_append, List.nil_append, Nat.reduceSub, Nat.reduceAdd, List.getElem?_cons_zero, List.getElem?_cons_succ, List.getElem?_nil, List.set_cons_zero, List.set_cons_succ, opF, cmpF, Bi.fd, Option.map_some, if_true, if_false, Bool.true_eq_false, Bool.false_eq_true, reduceIte, Bool.not_true, Bool.not_false, w_some, w_none, w_fz0, w_fz1, w_t0, w_t1, w_t2, w_t3, w_t4, w_add, w_addL, w_addT, w_sub, w_subB, w_mul, w_mulL, w_mulT, w_mod, w_div, w_lt, w_le, w_gt, w_ge, w_is, w_isnt, w_n0, w_n1, w_n2, w_n3, w_n4, w_neg, w_atL, w_atT, w_lenL, w_lenT, w_tupL, w_tupT, w_lisL, w_lisT, w_abs, w_int, w_intB, w_gcd, w_min, w_max, w_seqL, w_seqT, w_augA, w_augS, w_augM, w_intQ, w_lstQ, w_rng1, w_rng2, w_zipL, w_zipT, w_zipM, w_zipN, w_enum, w_enumT]
    refine ⟨((((k : Nat) : Int) + 1 : Int) : Rat), f.getD k 0, 3, s, rfl, Sz.ofInt (show ((k : Int) + 1).natAbs < 2 ^ 3 by omega) (by decide), h3, by omega, ?_⟩
    exact ⟨_, _, sumSz 4 (s + 3), sumSz 4 (s + 3), rfl, h1, h2, by omega, hkk _ ⟨by omega, _, _, rfl⟩⟩
  · obtain ⟨_, y2, y3, rfl⟩ := hI
    simp only [true_and, wpSs, wpS, wpE, wpX, wpO, wpC, wpI, ent, kt0, bindT, bindTs, tgsLen, wipeR, constD, owL, List.map_cons, List.map_nil, List.length_cons, List.length_nil, List.replicate, List.cons_append, List.nil_append, Nat.reduceSub, Nat.reduceAdd, List.getElem?_cons_zero, List.getElem?_cons_succ, List.getElem?_nil, List.set_cons_zero, List.set_cons_succ, opF, cmpF, Bi.fd, Option.map_some, if_true, if_false, Bool.true_eq_false, Bool.false_eq_true, reduceIte, Bool.not_true, Bool.not_false, w_some, w_none, w_fz0, w_fz1, w_t0, w_t1, w_t2, w_t3, w_t4, w_add, w_addL, w_addT, w_sub, w_subB, w_mul, w_mulL, w_mulT, w_mod, w_div, w_lt, w_le, w_gt, w_ge, w_is, w_isnt, w_n0, w_n1, w_n2, w_n3, w_n4, w_neg, w_atL, w_atT, w_lenL, w_lenT, w_tupL, w_tupT, w_lisL, w_lisT, w_abs, w_int, w_intB, w_gcd, w_min, w_max, w_seqL, w_seqT, w_augA, w_augS, w_augM, w_intQ, w_lstQ, w_rng1, w_rng2, w_zipL, w_zipT, w_zipM, w_zipN, w_enum, w_enumT]
    rw [eG] at hP
    exact hP
theorem imp_guesses_needed (e1 : Γ.Φ "guesses_for" = φ_guesses_for) (as : List Sl) (P : D → Prop) (PE : Str → Prop) (h : φ_guesses_needed as P PE) : spW Γ d_guesses_needed as P PE := by
  obtain ⟨b, l, s, rfl, ok, hP⟩ := h
  refine ⟨rfl, ?_⟩
  simp only [d_guesses_needed, true_and, wpSs, wpS, wpE, wpX, wpO, wpC, wpI, ent, kt0, bindT, bindTs, tgsLen, wipeR, constD, owL, List.map_cons, List.map_nil, List.length_cons, List.length_nil, List.replicate, List.cons_append, List.nil_append, Nat.reduceSub, Nat.reduceAdd, List.getElem?_cons_zero, List.getElem?_cons_succ, List.getElem?_nil, List.set_cons_zero, List.set_cons_succ, opF, cmpF, Bi.fd, Option.map_some, if_true, if_false, Bool.true_eq_false, Bool.false_eq_true, reduceIte, Bool.not_true, Bool.not_false, w_some, w_none, w_fz0, w_fz1, w_t0, w_t1, w_t2, w_t3, w_t4, w_add, w_addL, w_addT, w_sub, w_subB, w_mul, w_mulL, w_mulT, w_mod, w_div, w_lt, w_le, w_gt, w_ge, w_is, w_isnt, w_n0, w_n1, w_n2, w_n3, w_n4, w_neg, w_atL, w_atT, w_lenL, w_lenT, w_tupL, w_tupT, w_lisL, w_lisT, w_abs, w_int, w_intB, w_gcd, w_min, w_max, w_seqL, w_seqT, w_augA, w_augS, w_augM, w_intQ, w_lstQ, w_rng1, w_rng2, w_zipL, w_zipT, w_zipM, w_zipN, w_enum, w_enumT, e1]
  exact ⟨b, l, s, rfl, ok, hP⟩
theorem G_sz {l : List Rat} {s : Nat} (ok : GsOk s l) : Sz (sumSz 4 (s + 3)) (G l) := by
  have hp := List.mergeSort_perm l (fun a b => decide (b ≤ a))
  have hd := List.pairwise_mergeSort (le := fun a b : Rat => decide (b ≤ a)) (fun a b c h1 h2 => by simp only [decide_eq_true_eq] at *; exact Rat.le_trans h2 h1) (fun a b => by
    rw [Bool.or_eq_true, decide_eq_true_iff, decide_eq_true_iff]
    exact Rat.le_total) l
  rw [← G_perm hp, G_desc _ (hd.imp fun h => of_decide_eq_true h)]
  exact (gsl_sums (by rw [hp.length_eq]; exact ok.len) fun x hx => ok.sz x (hp.mem_iff.mp hx)).all
theorem imp_guesses_behind (e0 : Γ.gl.lookup ("NOTHING" : Str) = some (qD 0)) (e1 : Γ.Φ "signs_of" = φ_signs_of) (e2 : Γ.Φ "plus" = φ_plus) (e3 : Γ.Φ "guesses_for" = φ_guesses_for) (e4 : Γ.Φ "column_of" = φ_column_of) (as : List Sl) (P : D → Prop) (PE : Str → Prop) (h : φ_guesses_behind as P PE) : spW Γ d_guesses_behind as P PE := by
  obtain ⟨w, c, n, s, t, rfl, ne, rl, w4, n4, hst, ok, hP⟩ := h
  refine ⟨rfl, ?_⟩
  simp only [d_guesses_behind, true_and, wpSs, wpS, wpE, wpX, wpO, wpC, wpI, ent, kt0, bindT, bindTs, tgsLen, wipeR, constD, owL, List.map_cons, List.map_nil, List.length_cons, List.length_nil, List.replicate, List.cons_append, List.nil_append, Nat.reduceSub, Nat.reduceAdd, List.getElem?_cons_zero, List.getElem?_cons_succ, List.getElem?_nil, List.set_cons_zero, List.set_cons_succ, opF, cmpF, Bi.fd, Option.map_some, if_true, if_false, Bool.true_eq_false, Bool.false_eq_true, reduceIte, Bool.not_true, Bool.not_false, w_some, w_none, w_fz0, w_fz1, w_t0, w_t1, w_t2, w_t3, w_t4, w_add, w_addL, w_addT, w_sub, w_subB, w_mul, w_mulL, w_mulT, w_mod, w_div, w_lt, w_le, w_gt, w_ge, w_is, w_isnt, w_n0, w_n1, w_n2, w_n3, w_n4, w_neg, w_atL, w_atT, w_lenL, w_lenT, w_tupL, w_tupT, w_lisL, w_lisT, w_abs, w_int, w_intB, w_gcd, w_min, w_max, w_seqL, w_seqT, w_augA, w_augS, w_augM, w_intQ, w_lstQ, w_rng1, w_rng2, w_zipL, w_zipT, w_zipM, w_zipN, w_enum, w_enumT, e0, e1, e2, e3, e4]
  obtain ⟨r, c', rfl, hr⟩ := chQ_hd ne rl
  refine ⟨r, c', rfl, ?_⟩
  rw [hr]
  refine ⟨rngOk_small (by omega) (by omega), ?_⟩
  rw [Int.toNat_natCast, rangeD0]
  generalize (r :: c') = c at *
  have gok : ∀ y, y < n → GsOk (s + t) (colQ w c y) := fun y hy => ⟨by unfold colQ; rw [List.length_zipWith]; omega, col_sz (ok y hy), hst⟩
  have su : Sums (sumSz 4 (sumSz 4 (s + t + 3))) ((List.range n).map fun y => G (colQ w c y)) := sums_le (by rw [List.length_map, List.length_range]; exact n4) fun x hx => by
    obtain ⟨y, hy, rfl⟩ := List.mem_map.mp hx
    exact G_sz (gok y (List.mem_range.mp hy))
  have big : sumSz 4 (sumSz 4 (s + t + 3)) ≤ 3000 := by unfold sumSz; omega
  refine forW_ix (I := fun k ρ => ∃ y3, ρ = [some (.fz (rowQ w)), some (.fz (chQ c)), some (.fz (qD (qsum ((List.range k).map fun y => G (colQ w c y))))), y3]) ⟨none, rfl⟩ (fun k ρ kk hk hI hkk => ?_) (fun ρ hI => ?_)
  · obtain ⟨y3, rfl⟩ := hI
    have h1 := su.su ((List.range k).map fun y => G (colQ w c y)) (((List.range n).map fun y => G (colQ w c y)).drop k) (by
      have : (List.range k).map (fun y => G (colQ w c y)) = ((List.range n).map fun y => G (colQ w c y)).take k := by
        rw [← List.map_take, List.take_range, Nat.min_eq_left (by omega)]
      rw [this, List.take_append_drop])
    have h2 := su.it (G (colQ w c k)) (List.mem_map.mpr ⟨k, List.mem_range.mpr hk, rfl⟩)
    rw [List.range_succ, List.map_append, List.map_cons, List.map_nil, qsum_snoc] at hkk
    simp only [true_and, wpSs, wpS, wpE, wpX, wpO, wpC, wpI, ent, kt0, bindT, bindTs, tgsLen, wipeR, constD, owL, List.map_cons, List.map_nil, List.length_cons, List.length_nil, List.replicate, List.cons_append, List.nil_append, Nat.reduceSub, Nat.reduceAdd, List.getElem?_cons_zero, List.getElem?_cons_succ, List.getElem?_nil, List.set_cons_zero, List.set_cons_succ, opF, cmpF, Bi.fd, Option.map_some, if_true, if_false, Bool.true_eq_false, Bool.false_eq_true, reduceIte, Bool.not_true, Bool.not_false, w_some, w_none, w_fz0, w_fz1, w_t0, w_t1, w_t2, w_t3, w_t4, w_add, w_addL, w_addT, w_sub, w_subB, w_mul, w_mulL, w_mulT, w_mod, w_div, w_lt, w_le, w_gt, w_ge, w_is, w_isnt, w_n0, w_n1, w_n2, w_n3, w_n4, w_neg, w_atL, w_atT, w_lenL, w_lenT, w_tupL, w_tupT, w_lisL, w_lisT, w_abs, w_int, w_intB, w_gcd, w_min, w_max, w_seqL, w_seqT, w_augA, w_augS, w_augM, w_intQ, w_lstQ, w_rng1, w_rng2, w_zipL, w_zipT, w_zipM, w_zipN, w_enum, w_enumT]
    refine ⟨false, w, c, k, s, t, rfl, ok k hk, ?_⟩
    refine ⟨false, colQ w c k, s + t, rfl, gok k hk, ?_⟩
    exact ⟨_, _, _, _, rfl, h1, h2, by omega, hkk _ ⟨_, rfl⟩⟩
  · obtain ⟨y3, rfl⟩ := hI
    simp only [true_and, wpSs, wpS, wpE, wpX, wpO, wpC, wpI, ent, kt0, bindT, bindTs, tgsLen, wipeR, constD, owL, List.map_cons, List.map_nil, List.length_cons, List.length_nil, List.replicate, List.cons_append, List.nil_append, Nat.reduceSub, Nat.reduceAdd, List.getElem?_cons_zero, List.getElem?_cons_succ, List.getElem?_nil, List.set_cons_zero, List.set_cons_succ, opF, cmpF, Bi.fd, Option.map_some, if_true, if_false, Bool.true_eq_false, Bool.false_eq_true, reduceIte, Bool.not_true, Bool.not_false, w_some, w_none, w_fz0, w_fz1, w_t0, w_t1, w_t2, w_t3, w_t4, w_add, w_addL, w_addT, w_sub, w_subB, w_mul, w_mulL, w_mulT, w_mod, w_div, w_lt, w_le, w_gt, w_ge, w_is, w_isnt, w_n0, w_n1, w_n2, w_n3, w_n4, w_neg, w_atL, w_atT, w_lenL, w_lenT, w_tupL, w_tupT, w_lisL, w_lisT, w_abs, w_int, w_intB, w_gcd, w_min, w_max, w_seqL, w_seqT, w_augA, w_augS, w_augM, w_intQ, w_lstQ, w_rng1, w_rng2, w_zipL, w_zipT, w_zipM, w_zipN, w_enum, w_enumT]
    exact hP
theorem imp__law_needed (e1 : Γ.Φ "_law_less" = φ__law_less) (e2 : Γ.Φ "_law_plus" = φ__law_plus) (e3 : Γ.Φ "_law_times" = φ__law_times) (as : List Sl) (P : D → Prop) (PE : Str → Prop) (h : φ__law_needed as P PE) : spW Γ d__law_needed as P PE := by
  obtain ⟨b, l, s, rfl, ok, hP⟩ := h
  refine ⟨rfl, ?_⟩
  have sb := ok.b
  have l4 := ok.len
  have hbig : sumSz 4 (s + 3) ≤ 600 := by unfold sumSz; omega
  have hlist : ∀ (bb : Bool) (Q : D → Prop), dList [seqD bb (l.map qD)] Q = Q (.list (l.map qD)) := fun bb Q => by cases bb <;> rfl
  simp only [d__law_needed, true_and, wpSs, wpS, wpE, wpX, wpO, wpC, wpI, ent, kt0, bindT, bindTs, tgsLen, wipeR, constD, owL, List.map_cons, List.map_nil, List.length_cons, List.length_nil, List.replicate, List.cons_append, List.nil_append, Nat.reduceSub, Nat.reduceAdd, List.getElem?_cons_zero, List.getElem?_cons_succ, List.getElem?_nil, List.set_cons_zero, List.set_cons_succ, opF, cmpF, Bi.fd, Option.map_some, if_true, if_false, Bool.true_eq_false, Bool.false_eq_true, reduceIte, Bool.not_true, Bool.not_false, w_some, w_none, w_fz0, w_fz1, w_t0, w_t1, w_t2, w_t3, w_t4, w_add, w_addL, w_addT, w_sub, w_subB, w_mul, w_mulL, w_mulT, w_mod, w_div, w_lt, w_le, w_gt, w_ge, w_is, w_isnt, w_n0, w_n1, w_n2, w_n3, w_n4, w_neg, w_atL, w_atT, w_lenL, w_lenT, w_tupL, w_tupT, w_lisL, w_lisT, w_abs, w_int, w_intB, w_gcd, w_min, w_max, w_seqL, w_seqT, w_augA, w_augS, w_augM, w_intQ, w_lstQ, w_rng1, w_rng2, w_zipL, w_zipT, w_zipM, w_zipN, w_enum, w_enumT, e1, e2, e3, hlist]
  refine ⟨fun μ ρ => ∃ (p lf : List Rat), (p ++ lf).Perm l ∧ p.Pairwise (fun a b => b ≤ a) ∧ (∀ a ∈ p, ∀ c ∈ lf, c ≤ a) ∧ μ = lf.length ∧ ∃ y4 y5, ρ = [some (.fz (seqD b (l.map qD))), some (.ow (.list (lf.map qD))), some (.fz (qD (qsum (gsl p)))), some (.fz (.int p.length)), y4, y5], ⟨l.length, [], l, .refl _, .nil, nofun, rfl, none, none, rfl⟩, ?_⟩
  rintro μ ρ ⟨p, lf, hp, hd, hle, rfl, y4, y5, rfl⟩
  have lall : p.length + lf.length ≤ 4 := by
    have := hp.length_eq
    rw [List.length_append] at this
    omega
  have hs : ∀ x ∈ p ++ lf, Sz s x := fun x hx => ok.sz x (hp.mem_iff.mp hx)
  simp only [true_and, wpSs, wpS, wpE, wpX, wpO, wpC, wpI, ent, kt0, bindT, bindTs, tgsLen, wipeR, constD, owL, List.map_cons, List.map_nil, List.length_cons, List.length_nil, List.replicate, List.cons_append, List.nil_append, Nat.reduceSub, Nat.reduceAdd, List.getElem?_cons_zero, List.getElem?_cons_succ, List.getElem?_nil, List.set_cons_zero, List.set_cons_succ, opF, cmpF, Bi.fd, Option.map_some, if_true, if_false, Bool.true_eq_false, Bool.false_eq_true, reduceIte, Bool.not_true, Bool.not_false, w_some, w_none, w_fz0, w_fz1, w_t0, w_t1, w_t2, w_t3, w_t4, w_add, w_addL, w_addT, w_sub, w_subB, w_mul, w_mulL, w_mulT, w_mod, w_div, w_lt, w_le, w_gt, w_ge, w_is, w_isnt, w_n0, w_n1, w_n2, w_n3, w_n4, w_neg, w_atL, w_atT, w_lenL, w_lenT, w_tupL, w_tupT, w_lisL, w_lisT, w_abs, w_int, w_intB, w_gcd, w_min, w_max, w_seqL, w_seqT, w_augA, w_augS, w_augM, w_intQ, w_lstQ, w_rng1, w_rng2, w_zipL, w_zipT, w_zipM, w_zipN, w_enum, w_enumT]
  refine dNe_list0 (td_shp (α := List Rat) lf (by decide)) ?_
  rw [List.isEmpty_map]
  cases lf with
  | nil =>
    simp only [List.isEmpty_nil, true_and, wpSs, wpS, wpE, wpX, wpO, wpC, wpI, ent, kt0, bindT, bindTs, tgsLen, wipeR, constD, owL, List.map_cons, List.map_nil, List.length_cons, List.length_nil, List.replicate, List.cons_append, List.nil_append, Nat.reduceSub, Nat.reduceAdd, List.getElem?_cons_zero, List.getElem?_cons_succ, List.getElem?_nil, List.set_cons_zero, List.set_cons_succ, opF, cmpF, Bi.fd, Option.map_some, if_true, if_false, Bool.true_eq_false, Bool.false_eq_true, reduceIte, Bool.not_true, Bool.not_false, w_some, w_none, w_fz0, w_fz1, w_t0, w_t1, w_t2, w_t3, w_t4, w_add, w_addL, w_addT, w_sub, w_subB, w_mul, w_mulL, w_mulT, w_mod, w_div, w_lt, w_le, w_gt, w_ge, w_is, w_isnt, w_n0, w_n1, w_n2, w_n3, w_n4, w_neg, w_atL, w_atT, w_lenL, w_lenT, w_tupL, w_tupT, w_lisL, w_lisT, w_abs, w_int, w_intB, w_gcd, w_min, w_max, w_seqL, w_seqT, w_augA, w_augS, w_augM, w_intQ, w_lstQ, w_rng1, w_rng2, w_zipL, w_zipT, w_zipM, w_zipN, w_enum, w_enumT]
    rw [List.append_nil] at hp
    rw [← G_perm hp, G_desc p hd] at hP
    exact hP
  | cons a lf =>
    simp only [List.isEmpty_cons, true_and, wpSs, wpS, wpE, wpX, wpO, wpC, wpI, ent, kt0, bindT, bindTs, tgsLen, wipeR, constD, owL, List.map_cons, List.map_nil, List.length_cons, List.length_nil, List.replicate, List.cons_append, List.nil_append, Nat.reduceSub, Nat.reduceAdd, List.getElem?_cons_zero, List.getElem?_cons_succ, List.getElem?_nil, List.set_cons_zero, List.set_cons_succ, opF, cmpF, Bi.fd, Option.map_some, if_true, if_false, Bool.true_eq_false, Bool.false_eq_true, reduceIte, Bool.not_true, Bool.not_false, w_some, w_none, w_fz0, w_fz1, w_t0, w_t1, w_t2, w_t3, w_t4, w_add, w_addL, w_addT, w_sub, w_subB, w_mul, w_mulL, w_mulT, w_mod, w_div, w_lt, w_le, w_gt, w_ge, w_is, w_isnt, w_n0, w_n1, w_n2, w_n3, w_n4, w_neg, w_atL, w_atT, w_lenL, w_lenT, w_tupL, w_tupT, w_lisL, w_lisT, w_abs, w_int, w_intB, w_gcd, w_min, w_max, w_seqL, w_seqT, w_augA, w_augS, w_augM, w_intQ, w_lstQ, w_rng1, w_rng2, w_zipL, w_zipT, w_zipM, w_zipN, w_enum, w_enumT, atI0, lkAt]
    intro ad xs
    rw [← List.map_cons]
    refine forW_inv (I := fun done ρ => ∃ m, m ∈ a :: lf ∧ (∀ c ∈ done, c ≤ m) ∧ ∃ y5, ρ = [some (.fz (seqD b (l.map qD))), some (.lk ad xs ((a :: lf).map qD)), some (.fz (qD (qsum (gsl p)))), some (.fz (.int p.length)), some (.fz (qD m)), y5]) ⟨a, List.mem_cons_self, nofun, y5, rfl⟩ (fun done x rest ρ kk el hI hkk => ?_) (fun ρ hI => ?_)
    · obtain ⟨m, hm, hdn, y5, rfl⟩ := hI
      have hx : x ∈ a :: lf := by rw [el]; simp
      refine ⟨rfl, ?_⟩
      simp only [true_and, wpSs, wpS, wpE, wpX, wpO, wpC, wpI, ent, kt0, bindT, bindTs, tgsLen, wipeR, constD, owL, List.map_cons, List.map_nil, List.length_cons, List.length_nil, List.replicate, List.cons_append, List.nil_append, Nat.reduceSub, Nat.reduceAdd, List.getElem?_cons_zero, List.getElem?_cons_succ, List.getElem?_nil, List.set_cons_zero, List.set_cons_succ, opF, cmpF, Bi.fd, Option.map_some, if_true, if_false, Bool.true_eq_false, Bool.false_eq_true, reduceIte, Bool.not_true, Bool.not_false, w_some, w_none, w_fz0, w_fz1, w_t0, w_t1, w_t2, w_t3, w_t4, w_add, w_addL, w_addT, w_sub, w_subB, w_mul, w_mulL, w_mulT, w_mod, w_div, w_lt, w_le, w_gt, w_ge, w_is, w_isnt, w_n0, w_n1, w_n2, w_n3, w_n4, w_neg, w_atL, w_atT, w_lenL, w_lenT, w_tupL, w_tupT, w_lisL, w_lisT, w_abs, w_int, w_intB, w_gcd, w_min, w_max, w_seqL, w_seqT, w_augA, w_augS, w_augM, w_intQ, w_lstQ, w_rng1, w_rng2, w_zipL, w_zipT, w_zipM, w_zipN, w_enum, w_enumT]
      refine less_q (hs m (List.mem_append.mpr (.inr hm))) (hs x (List.mem_append.mpr (.inr hx))) (by omega) ?_
      by_cases c : m < x
      · rw [decide_eq_true c]
        simp only [true_and, wpSs, wpS, wpE, wpX, wpO, wpC, wpI, ent, kt0, bindT, bindTs, tgsLen, wipeR, constD, owL, List.map_cons, List.map_nil, List.length_cons, List.length_nil, List.replicate, List.cons_append, List.nil_append, Nat.reduceSub, Nat.reduceAdd, List.getElem?_cons_zero, List.getElem?_cons_succ, List.getElem?_nil, List.set_cons_zero, List.set_cons_succ, opF, cmpF, Bi.fd, Option.map_some, if_true, if_false, Bool.true_eq_false, Bool.false_eq_true, reduceIte, Bool.not_true, Bool.not_false, w_some, w_none, w_fz0, w_fz1, w_t0, w_t1, w_t2, w_t3, w_t4, w_add, w_addL, w_addT, w_sub, w_subB, w_mul, w_mulL, w_mulT, w_mod, w_div, w_lt, w_le, w_gt, w_ge, w_is, w_isnt, w_n0, w_n1, w_n2, w_n3, w_n4, w_neg, w_atL, w_atT, w_lenL, w_lenT, w_tupL, w_tupT, w_lisL, w_lisT, w_abs, w_int, w_intB, w_gcd, w_min, w_max, w_seqL, w_seqT, w_augA, w_augS, w_augM, w_intQ, w_lstQ, w_rng1, w_rng2, w_zipL, w_zipT, w_zipM, w_zipN, w_enum, w_enumT]
        refine hkk _ ⟨x, hx, fun z hz => ?_, _, rfl⟩
        rcases List.mem_append.mp hz with hz | hz
        · have := hdn z hz
          grind
        · rw [List.mem_singleton.mp hz]
          exact Rat.le_refl
      · rw [decide_eq_false c]
        simp only [true_and, wpSs, wpS, wpE, wpX, wpO, wpC, wpI, ent, kt0, bindT, bindTs, tgsLen, wipeR, constD, owL, List.map_cons, List.map_nil, List.length_cons, List.length_nil, List.replicate, List.cons_append, List.nil_append, Nat.reduceSub, Nat.reduceAdd, List.getElem?_cons_zero, List.getElem?_cons_succ, List.getElem?_nil, List.set_cons_zero, List.set_cons_succ, opF, cmpF, Bi.fd, Option.map_some, if_true, if_false, Bool.true_eq_false, Bool.false_eq_true, reduceIte, Bool.not_true, Bool.not_false, w_some, w_none, w_fz0, w_fz1, w_t0, w_t1, w_t2, w_t3, w_t4, w_add, w_addL, w_addT, w_sub, w_subB, w_mul, w_mulL, w_mulT, w_mod, w_div, w_lt, w_le, w_gt, w_ge, w_is, w_isnt, w_n0, w_n1, w_n2, w_n3, w_n4, w_neg, w_atL, w_atT, w_lenL, w_lenT, w_tupL, w_tupT, w_lisL, w_lisT, w_abs, w_int, w_intB, w_gcd, w_min, w_max, w_seqL, w_seqT, w_augA, w_augS, w_augM, w_intQ, w_lstQ, w_rng1, w_rng2, w_zipL, w_zipT, w_zipM, w_zipN, w_enum, w_enumT]
        refine hkk _ ⟨m, hm, fun z hz => ?_, _, rfl⟩
        rcases List.mem_append.mp hz with hz | hz
        · exact hdn z hz
        · rw [List.mem_singleton.mp hz]
          grind
    · obtain ⟨m, hm, hdn, y5, rfl⟩ := hI
      refine ⟨rfl, ?_⟩
      simp only [true_and, wpSs, wpS, wpE, wpX, wpO, wpC, wpI, ent, kt0, bindT, bindTs, tgsLen, wipeR, constD, owL, List.map_cons, List.map_nil, List.length_cons, List.length_nil, List.replicate, List.cons_append, List.nil_append, Nat.reduceSub, Nat.reduceAdd, List.getElem?_cons_zero, List.getElem?_cons_succ, List.getElem?_nil, List.set_cons_zero, List.set_cons_succ, opF, cmpF, Bi.fd, Option.map_some, if_true, if_false, Bool.true_eq_false, Bool.false_eq_true, reduceIte, Bool.not_true, Bool.not_false, w_some, w_none, w_fz0, w_fz1, w_t0, w_t1, w_t2, w_t3, w_t4, w_add, w_addL, w_addT, w_sub, w_subB, w_mul, w_mulL, w_mulT, w_mod, w_div, w_lt, w_le, w_gt, w_ge, w_is, w_isnt, w_n0, w_n1, w_n2, w_n3, w_n4, w_neg, w_atL, w_atT, w_lenL, w_lenT, w_tupL, w_tupT, w_lisL, w_lisT, w_abs, w_int, w_intB, w_gcd, w_min, w_max, w_seqL, w_seqT, w_augA, w_augS, w_augM, w_intQ, w_lstQ, w_rng1, w_rng2, w_zipL, w_zipT, w_zipM, w_zipN, w_enum, w_enumT]
      obtain ⟨j, hj, hjm⟩ := place_q hm
      have pe := erase_perm hjm
      refine ⟨td_shp (α := Rat) m (by decide), td_shp (α := List Rat) (a :: lf) (by decide), ?_⟩
      rw [List.map_cons] at hj
      rw [hj]
      simp only [true_and, wpSs, wpS, wpE, wpX, wpO, wpC, wpI, ent, kt0, bindT, bindTs, tgsLen, wipeR, constD, owL, List.map_cons, List.map_nil, List.length_cons, List.length_nil, List.replicate, List.cons_append, List.nil_append, Nat.reduceSub, Nat.reduceAdd, List.getElem?_cons_zero, List.getElem?_cons_succ, List.getElem?_nil, List.set_cons_zero, List.set_cons_succ, opF, cmpF, Bi.fd, Option.map_some, if_true, if_false, Bool.true_eq_false, Bool.false_eq_true, reduceIte, Bool.not_true, Bool.not_false, w_some, w_none, w_fz0, w_fz1, w_t0, w_t1, w_t2, w_t3, w_t4, w_add, w_addL, w_addT, w_sub, w_subB, w_mul, w_mulL, w_mulT, w_mod, w_div, w_lt, w_le, w_gt, w_ge, w_is, w_isnt, w_n0, w_n1, w_n2, w_n3, w_n4, w_neg, w_atL, w_atT, w_lenL, w_lenT, w_tupL, w_tupT, w_lisL, w_lisT, w_abs, w_int, w_intB, w_gcd, w_min, w_max, w_seqL, w_seqT, w_augA, w_augS, w_augM, w_intQ, w_lstQ, w_rng1, w_rng2, w_zipL, w_zipT, w_zipM, w_zipN, w_enum, w_enumT]
      have he : ((a :: lf).eraseIdx j).map qD = (qD a :: lf.map qD).eraseIdx j := by
        rw [← List.map_cons]
        exact erase_map qD j _
      have hpm : ∀ q ∈ p ++ [m], Sz s q := fun q hq => hs q (by
        rcases List.mem_append.mp hq with h | h
        · exact List.mem_append.mpr (.inl h)
        · rw [List.mem_singleton.mp h]
          exact List.mem_append.mpr (.inr hm))
      have su := gsl_sums (f := p ++ [m]) (by rw [List.length_append, List.length_singleton]; rw [List.length_cons] at lall; omega) hpm
      rw [gsl_snoc] at su
      have h1 := su.su _ _ rfl
      have h2 := su.it (((((p.length : Nat) : Int) + 1 : Int) : Rat) * m) (by simp)
      refine ⟨((((p.length : Nat) : Int) + 1 : Int) : Rat), m, 3, s, rfl, Sz.ofInt (show ((p.length : Int) + 1).natAbs < 2 ^ 3 by rw [List.length_cons] at lall; omega) (by decide), hpm m (by simp), by omega, ?_⟩
      refine ⟨_, _, sumSz 4 (s + 3), sumSz 4 (s + 3), rfl, h1, h2, by omega, ?_⟩
      refine ⟨((a :: lf).eraseIdx j).length, ?_, p ++ [m], (a :: lf).eraseIdx j, ?_, ?_, fun u hu c hc => ?_, rfl, some (.fz (qD m)), y5, ?_⟩
      · have := pe.length_eq
        rw [List.length_cons, List.length_cons] at this
        omega
      · rw [List.append_assoc]
        exact (pe.append_left p).trans hp
      · rw [List.pairwise_append]
        exact ⟨hd, List.pairwise_singleton .., fun u hu v hv => by rw [List.mem_singleton.mp hv]; exact hle u hu m hm⟩
      · have hc2 : c ∈ a :: lf := pe.mem_iff.mp (List.mem_cons_of_mem _ hc)
        rcases List.mem_append.mp hu with h | h
        · exact hle u h c hc2
        · rw [List.mem_singleton.mp h]
          exact hdn c hc2
      · rw [gsl_snoc, qsum_snoc, he, List.length_append, List.length_singleton]
        rfl
end
end DL

set_option Elab.async false
set_option linter.all false
set_option maxRecDepth 100000
set_option maxHeartbeats 4000000
namespace DL
open PySem PySem.Spec PyProof.Rows L2
structure H37 (Γ : Gam) : Prop where
  tk : Γ.Φ "_law_take" = φTake
  ro : Γ.Φ "_law_row" = φ__law_row
  ch : Γ.Φ "_law_channel" = φ__law_channel
  sp : Γ.Φ "spread" = φ_spread
  lt : Γ.Φ "_law_told" = φ__law_told
  ad : Γ.Φ "_law_adds_up" = φ__law_adds_up
  lo : Γ.Φ "_law_lowest" = φ__law_lowest
  ti : Γ.Φ "_law_times" = φ__law_times
  ne : Γ.Φ "_law_needed" = φ__law_needed
  to : Γ.Φ "_law_total" = φ__law_total
  gn : Γ.Φ "guesses_needed" = φ_guesses_needed
  gb : Γ.Φ "guesses_behind" = φ_guesses_behind
  le : Γ.Φ "_law_less" = φ__law_less
  ca : Γ.Φ "cascade" = φ_cascade
def loopBody : DL.St → Sts
  | .loop _ _ b => b
  | _ => .nil
def lb37 : Sts := loopBody (stsGet 0 d_law.body)
def Any37 (ρ : Rho) : Prop := ∃ y2 y3 y4 y5 y6 y7 y8 y9 y10 y11 y12 y13 y14 y15 y16 y17 y18 y19, ρ = [none, some .dr, y2, y3, y4, y5, y6, y7, y8, y9, y10, y11, y12, y13, y14, y15, y16, y17, y18, y19]
abbrev rowB (m n : Nat) (w : List Rat) (c : List (List Rat)) (pl : Pl) (y2 : Option Sl) (t : Rho) : Rho :=
  none :: some .dr :: y2 :: some (.fz (.int m)) :: some (.fz (.int n)) :: some (.fz (rowQ w)) :: some (.fz (chQ c)) :: some (.fz (plD pl)) :: t
section
variable {Γ : Gam} {m n : Nat} {w : List Rat} {c : List (List Rat)} {pl : Pl}
theorem not_lt {a b : Rat} (h : b ≤ a) : decide (a < b) = false := decide_eq_false (by rw [Rat.not_lt]; exact h)
theorem behind_sums (h : PC m n w c) : Sums (sumSz 4 (sumSz 4 17)) ((List.range n).map fun y => G (colQ w c y)) := sums_le (by rw [List.length_map, List.length_range]; exact h.n4) fun x hx => by
  obtain ⟨y, hy, rfl⟩ := List.mem_map.mp hx
  exact G_sz (s := 14) ⟨by rw [col_len (by rw [h.lw, h.ch.len]), h.lw]; exact h.m4, col_sz (h.ok (List.mem_range.mp hy)), by decide⟩
/-- guessing on -/
theorem seg_guess (g : H37 Γ) {K : Kt} (h : PC m n w c) (hK : ∀ ρ, Any37 ρ → K.nx ρ) {y2 y8 y9 y10 y11 y12 y13 y14 y15 y16 y17 y18 y19 : Option Sl} :
    wpSs Γ (stsDrop 8 lb37) (rowB m n w c pl y2 [y8, y9, y10, y11, y12, y13, y14, y15, y16, y17, y18, y19]) K := by
  have m4 := h.m4
  have m1 := h.m1
  have n4 := h.n4
  have n1 := h.n1
  have hcl := h.ch.len
  have hlw := h.lw
  have cne : c ≠ [] := fun e => by rw [e] at hcl; simp at hcl; omega
  simp only [stsDrop, lb37, loopBody, stsGet, d_law, true_and, wpSs, wpS, wpE, wpX, wpO, wpC, wpI, ent, kt0, bindT, bindTs, tgsLen, wipeR, constD, owL, List.map_cons, List.map_nil, List.length_cons, List.length_nil, List.replicate, List.cons_append, List.nil_append, Nat.reduceSub, Nat.reduceAdd, List.getElem?_cons_zero, List.getElem?_cons_succ, List.getElem?_nil, List.set_cons_zero, List.set_cons_succ, opF, cmpF, Bi.fd, Option.map_some, if_true, if_false, Bool.true_eq_false, Bool.false_eq_true, reduceIte, Bool.not_true, Bool.not_false, w_some, w_none, w_fz0, w_fz1, w_t0, w_t1, w_t2, w_t3, w_t4, w_add, w_addL, w_addT, w_sub, w_subB, w_mul, w_mulL, w_mulT, w_mod, w_div, w_lt, w_le, w_gt, w_ge, w_is, w_isnt, w_n0, w_n1, w_n2, w_n3, w_n4, w_neg, w_atL, w_atT, w_lenL, w_lenT, w_tupL, w_tupT, w_lisL, w_lisT, w_abs, w_int, w_intB, w_gcd, w_min, w_max, w_seqL, w_seqT, w_augA, w_augS, w_augM, w_intQ, w_lstQ, w_rng1, w_rng2, w_zipL, w_zipT, w_zipM, w_zipN, w_enum, w_enumT, g.ne, g.to, g.ti, g.gn, g.gb, g.le, g.ca, g.ch, g.tk]
  have gw : GsOk 7 w := ⟨by omega, h.sw, by decide⟩
  have gc : ∀ y, y < n → GsOk 14 (colQ w c y) := fun y hy => ⟨by rw [col_len (by rw [hlw, hcl]), hlw]; exact m4, col_sz (h.ok hy), by decide⟩
  have bs := behind_sums h
  have big : sumSz 4 (sumSz 4 17) = 455 := by decide
  refine ⟨false, w, 7, rfl, gw, ?_⟩
  simp only [true_and, wpSs, wpS, wpE, wpX, wpO, wpC, wpI, ent, kt0, bindT, bindTs, tgsLen, wipeR, constD, owL, List.map_cons, List.map_nil, List.length_cons, List.length_nil, List.replicate, List.cons_append, List.nil_append, Nat.reduceSub, Nat.reduceAdd, List.getElem?_cons_zero, List.getElem?_cons_succ, List.getElem?_nil, List.set_cons_zero, List.set_cons_succ, opF, cmpF, Bi.fd, Option.map_some, if_true, if_false, Bool.true_eq_false, Bool.false_eq_true, reduceIte, Bool.not_true, Bool.not_false, w_some, w_none, w_fz0, w_fz1, w_t0, w_t1, w_t2, w_t3, w_t4, w_add, w_addL, w_addT, w_sub, w_subB, w_mul, w_mulL, w_mulT, w_mod, w_div, w_lt, w_le, w_gt, w_ge, w_is, w_isnt, w_n0, w_n1, w_n2, w_n3, w_n4, w_neg, w_atL, w_atT, w_lenL, w_lenT, w_tupL, w_tupT, w_lisL, w_lisT, w_abs, w_int, w_intB, w_gcd, w_min, w_max, w_seqL, w_seqT, w_augA, w_augS, w_augM, w_intQ, w_lstQ, w_rng1, w_rng2, w_zipL, w_zipT, w_zipM, w_zipN, w_enum, w_enumT]
  refine ⟨rngOk_small (by omega) (by omega), ?_⟩
  rw [Int.toNat_natCast, rangeD0]
  refine ⟨by rw [List.length_map, List.length_range]; exact small (by omega), ?_⟩
  refine foldW_map (fun (y : Nat) => qD (G (colQ w c y))) (fun y acc kk hy hkk => ?_) ?_
  · have hy := List.mem_range.mp hy
    simp only [true_and, wpSs, wpS, wpE, wpX, wpO, wpC, wpI, ent, kt0, bindT, bindTs, tgsLen, wipeR, constD, owL, List.map_cons, List.map_nil, List.length_cons, List.length_nil, List.replicate, List.cons_append, List.nil_append, Nat.reduceSub, Nat.reduceAdd, List.getElem?_cons_zero, List.getElem?_cons_succ, List.getElem?_nil, List.set_cons_zero, List.set_cons_succ, opF, cmpF, Bi.fd, Option.map_some, if_true, if_false, Bool.true_eq_false, Bool.false_eq_true, reduceIte, Bool.not_true, Bool.not_false, w_some, w_none, w_fz0, w_fz1, w_t0, w_t1, w_t2, w_t3, w_t4, w_add, w_addL, w_addT, w_sub, w_subB, w_mul, w_mulL, w_mulT, w_mod, w_div, w_lt, w_le, w_gt, w_ge, w_is, w_isnt, w_n0, w_n1, w_n2, w_n3, w_n4, w_neg, w_atL, w_atT, w_lenL, w_lenT, w_tupL, w_tupT, w_lisL, w_lisT, w_abs, w_int, w_intB, w_gcd, w_min, w_max, w_seqL, w_seqT, w_augA, w_augS, w_augM, w_intQ, w_lstQ, w_rng1, w_rng2, w_zipL, w_zipT, w_zipM, w_zipN, w_enum, w_enumT, rowQ, chQ]
    rw [zipD_map2]
    refine ⟨by rw [List.length_map, List.length_zip]; exact small (by omega), ?_⟩
    refine foldW_map (fun p => qD (p.1 * p.2.getD y 0)) (fun p acc k2 hp hk2 => ?_) ?_
    · have hr := h.ch.row _ (mem_zip hp).2
      have hyr : y < p.2.length := by rw [hr.len]; exact hy
      simp only [true_and, wpSs, wpS, wpE, wpX, wpO, wpC, wpI, ent, kt0, bindT, bindTs, tgsLen, wipeR, constD, owL, List.map_cons, List.map_nil, List.length_cons, List.length_nil, List.replicate, List.cons_append, List.nil_append, Nat.reduceSub, Nat.reduceAdd, List.getElem?_cons_zero, List.getElem?_cons_succ, List.getElem?_nil, List.set_cons_zero, List.set_cons_succ, opF, cmpF, Bi.fd, Option.map_some, if_true, if_false, Bool.true_eq_false, Bool.false_eq_true, reduceIte, Bool.not_true, Bool.not_false, w_some, w_none, w_fz0, w_fz1, w_t0, w_t1, w_t2, w_t3, w_t4, w_add, w_addL, w_addT, w_sub, w_subB, w_mul, w_mulL, w_mulT, w_mod, w_div, w_lt, w_le, w_gt, w_ge, w_is, w_isnt, w_n0, w_n1, w_n2, w_n3, w_n4, w_neg, w_atL, w_atT, w_lenL, w_lenT, w_tupL, w_tupT, w_lisL, w_lisT, w_abs, w_int, w_intB, w_gcd, w_min, w_max, w_seqL, w_seqT, w_augA, w_augS, w_augM, w_intQ, w_lstQ, w_rng1, w_rng2, w_zipL, w_zipT, w_zipM, w_zipN, w_enum, w_enumT, rowQ, at_qD hyr]
      exact ⟨p.1, p.2.getD y 0, 7, 7, rfl, h.sw _ (mem_zip hp).1, hr.sz _ (getD_mem 0 hyr), by decide, hk2⟩
    · refine ⟨true, colQ w c y, 14, ?_, gc y hy, hkk⟩
      unfold colQ
      rw [zipWith_zip, List.map_map]
      rfl
  refine ⟨true, (List.range n).map fun y => G (colQ w c y), _, by rw [List.map_map]; rfl, bs, by rw [big]; decide, ?_⟩
  have bsa := bs.all
  have ge1 := need_ge h
  refine ⟨false, w, 7, rfl, gw, ?_⟩
  refine dNeQ ?_
  rw [decide_eq_true rfl]
  simp only [true_and, wpSs, wpS, wpE, wpX, wpO, wpC, wpI, ent, kt0, bindT, bindTs, tgsLen, wipeR, constD, owL, List.map_cons, List.map_nil, List.length_cons, List.length_nil, List.replicate, List.cons_append, List.nil_append, Nat.reduceSub, Nat.reduceAdd, List.getElem?_cons_zero, List.getElem?_cons_succ, List.getElem?_nil, List.set_cons_zero, List.set_cons_succ, opF, cmpF, Bi.fd, Option.map_some, if_true, if_false, Bool.true_eq_false, Bool.false_eq_true, reduceIte, Bool.not_true, Bool.not_false, w_some, w_none, w_fz0, w_fz1, w_t0, w_t1, w_t2, w_t3, w_t4, w_add, w_addL, w_addT, w_sub, w_subB, w_mul, w_mulL, w_mulT, w_mod, w_div, w_lt, w_le, w_gt, w_ge, w_is, w_isnt, w_n0, w_n1, w_n2, w_n3, w_n4, w_neg, w_atL, w_atT, w_lenL, w_lenT, w_tupL, w_tupT, w_lisL, w_lisT, w_abs, w_int, w_intB, w_gcd, w_min, w_max, w_seqL, w_seqT, w_augA, w_augS, w_augM, w_intQ, w_lstQ, w_rng1, w_rng2, w_zipL, w_zipT, w_zipM, w_zipN, w_enum, w_enumT]
  refine ⟨w, c, n, 7, 7, rfl, cne, fun r hr => (h.ch.row r hr).len, by omega, n4, by decide, fun y hy => h.ok hy, ?_⟩
  refine dNeQ ?_
  rw [decide_eq_true rfl]
  simp only [true_and, wpSs, wpS, wpE, wpX, wpO, wpC, wpI, ent, kt0, bindT, bindTs, tgsLen, wipeR, constD, owL, List.map_cons, List.map_nil, List.length_cons, List.length_nil, List.replicate, List.cons_append, List.nil_append, Nat.reduceSub, Nat.reduceAdd, List.getElem?_cons_zero, List.getElem?_cons_succ, List.getElem?_nil, List.set_cons_zero, List.set_cons_succ, opF, cmpF, Bi.fd, Option.map_some, if_true, if_false, Bool.true_eq_false, Bool.false_eq_true, reduceIte, Bool.not_true, Bool.not_false, w_some, w_none, w_fz0, w_fz1, w_t0, w_t1, w_t2, w_t3, w_t4, w_add, w_addL, w_addT, w_sub, w_subB, w_mul, w_mulL, w_mulT, w_mod, w_div, w_lt, w_le, w_gt, w_ge, w_is, w_isnt, w_n0, w_n1, w_n2, w_n3, w_n4, w_neg, w_atL, w_atT, w_lenL, w_lenT, w_tupL, w_tupT, w_lisL, w_lisT, w_abs, w_int, w_intB, w_gcd, w_min, w_max, w_seqL, w_seqT, w_augA, w_augS, w_augM, w_intQ, w_lstQ, w_rng1, w_rng2, w_zipL, w_zipT, w_zipM, w_zipN, w_enum, w_enumT]
  refine less_q (G_sz gw) bsa (by rw [big]; decide) ?_
  rw [not_lt ge1]
  simp only [true_and, wpSs, wpS, wpE, wpX, wpO, wpC, wpI, ent, kt0, bindT, bindTs, tgsLen, wipeR, constD, owL, List.map_cons, List.map_nil, List.length_cons, List.length_nil, List.replicate, List.cons_append, List.nil_append, Nat.reduceSub, Nat.reduceAdd, List.getElem?_cons_zero, List.getElem?_cons_succ, List.getElem?_nil, List.set_cons_zero, List.set_cons_succ, opF, cmpF, Bi.fd, Option.map_some, if_true, if_false, Bool.true_eq_false, Bool.false_eq_true, reduceIte, Bool.not_true, Bool.not_false, w_some, w_none, w_fz0, w_fz1, w_t0, w_t1, w_t2, w_t3, w_t4, w_add, w_addL, w_addT, w_sub, w_subB, w_mul, w_mulL, w_mulT, w_mod, w_div, w_lt, w_le, w_gt, w_ge, w_is, w_isnt, w_n0, w_n1, w_n2, w_n3, w_n4, w_neg, w_atL, w_atT, w_lenL, w_lenT, w_tupL, w_tupT, w_lisL, w_lisT, w_abs, w_int, w_intB, w_gcd, w_min, w_max, w_seqL, w_seqT, w_augA, w_augS, w_augM, w_intQ, w_lstQ, w_rng1, w_rng2, w_zipL, w_zipT, w_zipM, w_zipN, w_enum, w_enumT]
  refine ⟨3, rfl, by decide, by decide, fun z z0 z1 => ?_⟩
  obtain ⟨k, hk⟩ : ∃ k : Nat, 1 + z = (k : Int) := ⟨(1 + z).toNat, by omega⟩
  simp only [true_and, wpSs, wpS, wpE, wpX, wpO, wpC, wpI, ent, kt0, bindT, bindTs, tgsLen, wipeR, constD, owL, List.map_cons, List.map_nil, List.length_cons, List.length_nil, List.replicate, List.cons_append, List.nil_append, Nat.reduceSub, Nat.reduceAdd, List.getElem?_cons_zero, List.getElem?_cons_succ, List.getElem?_nil, List.set_cons_zero, List.set_cons_succ, opF, cmpF, Bi.fd, Option.map_some, if_true, if_false, Bool.true_eq_false, Bool.false_eq_true, reduceIte, Bool.not_true, Bool.not_false, w_some, w_none, w_fz0, w_fz1, w_t0, w_t1, w_t2, w_t3, w_t4, w_add, w_addL, w_addT, w_sub, w_subB, w_mul, w_mulL, w_mulT, w_mod, w_div, w_lt, w_le, w_gt, w_ge, w_is, w_isnt, w_n0, w_n1, w_n2, w_n3, w_n4, w_neg, w_atL, w_atT, w_lenL, w_lenT, w_tupL, w_tupT, w_lisL, w_lisT, w_abs, w_int, w_intB, w_gcd, w_min, w_max, w_seqL, w_seqT, w_augA, w_augS, w_augM, w_intQ, w_lstQ, w_rng1, w_rng2, w_zipL, w_zipT, w_zipM, w_zipN, w_enum, w_enumT, hk]
  refine ⟨n, k, rfl, by omega, by omega, by omega, by omega, fun R hR => ?_⟩
  refine ⟨m, n, k, c, R, rfl, h.ch, hR, n1, m4, n4, by omega, ?_⟩
  have ge2 := casc_ge h hR
  have cl : (casc c R k).length = m := by unfold casc; rw [List.length_map]; exact hcl
  have cr : ∀ r ∈ casc c R k, r.length = k ∧ ∀ x ∈ r, Sz 75 x := fun r hr => by
    unfold casc at hr
    obtain ⟨q, hq, rfl⟩ := List.mem_map.mp hr
    refine ⟨by rw [List.length_map, List.length_range], fun x hx => ?_⟩
    obtain ⟨u, hu, rfl⟩ := List.mem_map.mp hx
    have hu := List.mem_range.mp hu
    have hql := h.ch.row q hq
    rw [zipWith_zip]
    refine (sums_le (L := 4) (n := 14) (by rw [List.length_map, List.length_zip, hql.len]; omega) fun v hv => ?_).all
    obtain ⟨p, hp, rfl⟩ := List.mem_map.mp hv
    have hpr := hR.row _ (mem_zip hp).2
    exact (hql.sz _ (mem_zip hp).1).mul (hpr.sz _ (getD_mem 0 (by rw [hpr.len]; exact hu))) (Nat.le_refl _)
  have ok2 : ∀ y, y < k → ColOk 7 75 w (casc c R k) y := fun y hy => ⟨h.sw, fun r hr => (cr r hr).2, fun r hr => by rw [(cr r hr).1]; exact hy, by omega, by decide⟩
  have s2 : Sums (sumSz 4 (sumSz 4 85)) ((List.range k).map fun y => G (colQ w (casc c R k) y)) := sums_le (by rw [List.length_map, List.length_range]; omega) fun x hx => by
    obtain ⟨y, hy, rfl⟩ := List.mem_map.mp hx
    exact G_sz (s := 82) ⟨by rw [col_len (by rw [hlw, cl]), hlw]; exact m4, col_sz (ok2 y (List.mem_range.mp hy)), by decide⟩
  simp only [true_and, wpSs, wpS, wpE, wpX, wpO, wpC, wpI, ent, kt0, bindT, bindTs, tgsLen, wipeR, constD, owL, List.map_cons, List.map_nil, List.length_cons, List.length_nil, List.replicate, List.cons_append, List.nil_append, Nat.reduceSub, Nat.reduceAdd, List.getElem?_cons_zero, List.getElem?_cons_succ, List.getElem?_nil, List.set_cons_zero, List.set_cons_succ, opF, cmpF, Bi.fd, Option.map_some, if_true, if_false, Bool.true_eq_false, Bool.false_eq_true, reduceIte, Bool.not_true, Bool.not_false, w_some, w_none, w_fz0, w_fz1, w_t0, w_t1, w_t2, w_t3, w_t4, w_add, w_addL, w_addT, w_sub, w_subB, w_mul, w_mulL, w_mulT, w_mod, w_div, w_lt, w_le, w_gt, w_ge, w_is, w_isnt, w_n0, w_n1, w_n2, w_n3, w_n4, w_neg, w_atL, w_atT, w_lenL, w_lenT, w_tupL, w_tupT, w_lisL, w_lisT, w_abs, w_int, w_intB, w_gcd, w_min, w_max, w_seqL, w_seqT, w_augA, w_augS, w_augM, w_intQ, w_lstQ, w_rng1, w_rng2, w_zipL, w_zipT, w_zipM, w_zipN, w_enum, w_enumT]
  refine ⟨w, casc c R k, k, 7, 75, rfl, fun e => by rw [e] at cl; simp at cl; omega, fun r hr => (cr r hr).1, by omega, by omega, by decide, ok2, ?_⟩
  refine less_q s2.all bsa (by decide) ?_
  rw [not_lt ge2]
  simp only [true_and, wpSs, wpS, wpE, wpX, wpO, wpC, wpI, ent, kt0, bindT, bindTs, tgsLen, wipeR, constD, owL, List.map_cons, List.map_nil, List.length_cons, List.length_nil, List.replicate, List.cons_append, List.nil_append, Nat.reduceSub, Nat.reduceAdd, List.getElem?_cons_zero, List.getElem?_cons_succ, List.getElem?_nil, List.set_cons_zero, List.set_cons_succ, opF, cmpF, Bi.fd, Option.map_some, if_true, if_false, Bool.true_eq_false, Bool.false_eq_true, reduceIte, Bool.not_true, Bool.not_false, w_some, w_none, w_fz0, w_fz1, w_t0, w_t1, w_t2, w_t3, w_t4, w_add, w_addL, w_addT, w_sub, w_subB, w_mul, w_mulL, w_mulT, w_mod, w_div, w_lt, w_le, w_gt, w_ge, w_is, w_isnt, w_n0, w_n1, w_n2, w_n3, w_n4, w_neg, w_atL, w_atT, w_lenL, w_lenT, w_tupL, w_tupT, w_lisL, w_lisT, w_abs, w_int, w_intB, w_gcd, w_min, w_max, w_seqL, w_seqT, w_augA, w_augS, w_augM, w_intQ, w_lstQ, w_rng1, w_rng2, w_zipL, w_zipT, w_zipM, w_zipN, w_enum, w_enumT]
  exact hK _ ⟨_, _, _, _, _, _, _, _, _, _, _, _, _, _, _, _, _, _, rfl⟩
theorem div3 (s r v : Rat) : Rat.divInt (s.num * r.num * v.den) (s.den * r.den * v.num) = s * r / v := by
  rw [Rat.div_def, mul_eq s r, Rat.inv_def, Rat.divInt_mul_divInt]
theorem pos_iff {v : Rat} (h : 0 ≤ v) : decide (v.num > 0) = decide (v ≠ 0) := decide_eq_decide.mpr ⟨fun h1 h2 => by rw [h2] at h1; exact absurd h1 (by decide), fun h1 => by
  have := Rat.num_nonneg (q := v)
  have h2 : v.num ≠ 0 := fun e => h1 (Rat.num_eq_zero.mp e)
  have h3 : 0 ≤ v.num := this.mpr h
  omega⟩
theorem rowD_mk (v : List Rat) : rowQ v = .tuple (v.map qD) := rfl
/-- the made channel -/
theorem seg_made (g : H37 Γ) {K : Kt} (h : PC m n w c) (hp : Pl1 m w pl) (hK : ∀ ρ, Any37 ρ → K.nx ρ) {y2 y9 y10 y11 y12 y13 y14 y15 y16 y17 y18 y19 : Option Sl} :
    wpSs Γ (stsDrop 5 lb37) (rowB m n w c pl y2 [some (.fz (chQ (made m w pl))), y9, y10, y11, y12, y13, y14, y15, y16, y17, y18, y19]) K := by
  have m4 := h.m4
  have m1 := h.m1
  have n4 := h.n4
  have hlw := h.lw
  have l4 := hp.len
  have fin := fun y8 y9 y10 y11 y12 y16 y17 => seg_guess (pl := pl) g (K := K) h hK (y2 := y2) (y8 := y8) (y9 := y9) (y10 := y10) (y11 := y11) (y12 := y12) (y13 := y13) (y14 := y14) (y15 := y15) (y16 := y16) (y17 := y17) (y18 := y18) (y19 := y19)
  have e : stsDrop 5 lb37 = .cons (stsGet 5 lb37) (.cons (stsGet 6 lb37) (.cons (stsGet 7 lb37) (stsDrop 8 lb37))) := rfl
  rw [e]
  generalize stsDrop 8 lb37 = T at fin ⊢
  simp only [lb37, loopBody, stsGet, d_law, true_and, wpSs, wpS, wpE, wpX, wpO, wpC, wpI, ent, kt0, bindT, bindTs, tgsLen, wipeR, constD, owL, List.map_cons, List.map_nil, List.length_cons, List.length_nil, List.replicate, List.cons_append, List.nil_append, Nat.reduceSub, Nat.reduceAdd, List.getElem?_cons_zero, List.getElem?_cons_succ, List.getElem?_nil, List.set_cons_zero, List.set_cons_succ, opF, cmpF, Bi.fd, Option.map_some, if_true, if_false, Bool.true_eq_false, Bool.false_eq_true, reduceIte, Bool.not_true, Bool.not_false, w_some, w_none, w_fz0, w_fz1, w_t0, w_t1, w_t2, w_t3, w_t4, w_add, w_addL, w_addT, w_sub, w_subB, w_mul, w_mulL, w_mulT, w_mod, w_div, w_lt, w_le, w_gt, w_ge, w_is, w_isnt, w_n0, w_n1, w_n2, w_n3, w_n4, w_neg, w_atL, w_atT, w_lenL, w_lenT, w_tupL, w_tupT, w_lisL, w_lisT, w_abs, w_int, w_intB, w_gcd, w_min, w_max, w_seqL, w_seqT, w_augA, w_augS, w_augM, w_intQ, w_lstQ, w_rng1, w_rng2, w_zipL, w_zipT, w_zipM, w_zipN, w_enum, w_enumT, g.lo, g.ro, g.lt, g.ad]
  refine ⟨rngOk_small (by omega) (by omega), ?_⟩
  rw [Int.toNat_natCast, rangeD0]
  refine forW_ix (I := fun k ρ => ∃ y9 y10, ρ = rowB m n w c pl y2 [some (.fz (chQ (made m w pl))), y9, y10, y11, y12, y13, y14, y15, y16, y17, y18, y19]) ⟨_, _, rfl⟩ (fun x ρ kk hx hI hkk => ?_) (fun ρ hI => ?_)
  · obtain ⟨y9, y10, rfl⟩ := hI
    have hkk := fun y9 y10 => hkk _ ⟨y9, y10, rfl⟩
    have am : atI ((made m w pl).map rowQ) (x : Int) = some (rowQ (mkM w pl x)) := by
      rw [at_map (getD_some [] (by rw [made_len]; exact hx)), made_at hx]
    have aw := at_qD (l := w) (x := x) (by omega)
    have wnn : 0 ≤ w.getD x 0 := h.wnn hx
    have wsz : Sz 7 (w.getD x 0) := h.sw _ (getD_mem 0 (by omega))
    simp only [true_and, wpSs, wpS, wpE, wpX, wpO, wpC, wpI, ent, kt0, bindT, bindTs, tgsLen, wipeR, constD, owL, List.map_cons, List.map_nil, List.length_cons, List.length_nil, List.replicate, List.cons_append, List.nil_append, Nat.reduceSub, Nat.reduceAdd, List.getElem?_cons_zero, List.getElem?_cons_succ, List.getElem?_nil, List.set_cons_zero, List.set_cons_succ, opF, cmpF, Bi.fd, Option.map_some, if_true, if_false, Bool.true_eq_false, Bool.false_eq_true, reduceIte, Bool.not_true, Bool.not_false, w_some, w_none, w_fz0, w_fz1, w_t0, w_t1, w_t2, w_t3, w_t4, w_add, w_addL, w_addT, w_sub, w_subB, w_mul, w_mulL, w_mulT, w_mod, w_div, w_lt, w_le, w_gt, w_ge, w_is, w_isnt, w_n0, w_n1, w_n2, w_n3, w_n4, w_neg, w_atL, w_atT, w_lenL, w_lenT, w_tupL, w_tupT, w_lisL, w_lisT, w_abs, w_int, w_intB, w_gcd, w_min, w_max, w_seqL, w_seqT, w_augA, w_augS, w_augM, w_intQ, w_lstQ, w_rng1, w_rng2, w_zipL, w_zipT, w_zipM, w_zipN, w_enum, w_enumT, plD]
    refine ⟨by rw [List.length_map]; exact small (by omega), ?_⟩
    refine foldW_map (fun p => qD p.2) (fun p acc k2 hpm hk2 => ?_) ?_
    · simp only [pD, true_and, wpSs, wpS, wpE, wpX, wpO, wpC, wpI, ent, kt0, bindT, bindTs, tgsLen, wipeR, constD, owL, List.map_cons, List.map_nil, List.length_cons, List.length_nil, List.replicate, List.cons_append, List.nil_append, Nat.reduceSub, Nat.reduceAdd, List.getElem?_cons_zero, List.getElem?_cons_succ, List.getElem?_nil, List.set_cons_zero, List.set_cons_succ, opF, cmpF, Bi.fd, Option.map_some, if_true, if_false, Bool.true_eq_false, Bool.false_eq_true, reduceIte, Bool.not_true, Bool.not_false, w_some, w_none, w_fz0, w_fz1, w_t0, w_t1, w_t2, w_t3, w_t4, w_add, w_addL, w_addT, w_sub, w_subB, w_mul, w_mulL, w_mulT, w_mod, w_div, w_lt, w_le, w_gt, w_ge, w_is, w_isnt, w_n0, w_n1, w_n2, w_n3, w_n4, w_neg, w_atL, w_atT, w_lenL, w_lenT, w_tupL, w_tupT, w_lisL, w_lisT, w_abs, w_int, w_intB, w_gcd, w_min, w_max, w_seqL, w_seqT, w_augA, w_augS, w_augM, w_intQ, w_lstQ, w_rng1, w_rng2, w_zipL, w_zipT, w_zipM, w_zipN, w_enum, w_enumT]
      exact hk2
    · simp only [true_and, wpSs, wpS, wpE, wpX, wpO, wpC, wpI, ent, kt0, bindT, bindTs, tgsLen, wipeR, constD, owL, List.map_cons, List.map_nil, List.length_cons, List.length_nil, List.replicate, List.cons_append, List.nil_append, Nat.reduceSub, Nat.reduceAdd, List.getElem?_cons_zero, List.getElem?_cons_succ, List.getElem?_nil, List.set_cons_zero, List.set_cons_succ, opF, cmpF, Bi.fd, Option.map_some, if_true, if_false, Bool.true_eq_false, Bool.false_eq_true, reduceIte, Bool.not_true, Bool.not_false, w_some, w_none, w_fz0, w_fz1, w_t0, w_t1, w_t2, w_t3, w_t4, w_add, w_addL, w_addT, w_sub, w_subB, w_mul, w_mulL, w_mulT, w_mod, w_div, w_lt, w_le, w_gt, w_ge, w_is, w_isnt, w_n0, w_n1, w_n2, w_n3, w_n4, w_neg, w_atL, w_atT, w_lenL, w_lenT, w_tupL, w_tupT, w_lisL, w_lisT, w_abs, w_int, w_intB, w_gcd, w_min, w_max, w_seqL, w_seqT, w_augA, w_augS, w_augM, w_intQ, w_lstQ, w_rng1, w_rng2, w_zipL, w_zipT, w_zipM, w_zipN, w_enum, w_enumT, rowQ, aw, qD0, chQ, am, pos_iff wnn]
      by_cases cz : w.getD x 0 = 0
      · rw [decide_eq_false (by simpa using cz)]
        simp only [true_and, wpSs, wpS, wpE, wpX, wpO, wpC, wpI, ent, kt0, bindT, bindTs, tgsLen, wipeR, constD, owL, List.map_cons, List.map_nil, List.length_cons, List.length_nil, List.replicate, List.cons_append, List.nil_append, Nat.reduceSub, Nat.reduceAdd, List.getElem?_cons_zero, List.getElem?_cons_succ, List.getElem?_nil, List.set_cons_zero, List.set_cons_succ, opF, cmpF, Bi.fd, Option.map_some, if_true, if_false, Bool.true_eq_false, Bool.false_eq_true, reduceIte, Bool.not_true, Bool.not_false, w_some, w_none, w_fz0, w_fz1, w_t0, w_t1, w_t2, w_t3, w_t4, w_add, w_addL, w_addT, w_sub, w_subB, w_mul, w_mulL, w_mulT, w_mod, w_div, w_lt, w_le, w_gt, w_ge, w_is, w_isnt, w_n0, w_n1, w_n2, w_n3, w_n4, w_neg, w_atL, w_atT, w_lenL, w_lenT, w_tupL, w_tupT, w_lisL, w_lisT, w_abs, w_int, w_intB, w_gcd, w_min, w_max, w_seqL, w_seqT, w_augA, w_augS, w_augM, w_intQ, w_lstQ, w_rng1, w_rng2, w_zipL, w_zipT, w_zipM, w_zipN, w_enum, w_enumT, am]
        have em : mkM w pl x = pl.map (·.2) := by
          unfold mkM
          rw [if_pos (show wx w x = 0 from cz)]
        rw [em]
        have e2 : pl.map (fun p => qD p.2) = (pl.map (·.2)).map qD := by rw [List.map_map]; rfl
        rw [e2]
        refine dNeTu ?_
        rw [decide_eq_true rfl]
        simp only [true_and, wpSs, wpS, wpE, wpX, wpO, wpC, wpI, ent, kt0, bindT, bindTs, tgsLen, wipeR, constD, owL, List.map_cons, List.map_nil, List.length_cons, List.length_nil, List.replicate, List.cons_append, List.nil_append, Nat.reduceSub, Nat.reduceAdd, List.getElem?_cons_zero, List.getElem?_cons_succ, List.getElem?_nil, List.set_cons_zero, List.set_cons_succ, opF, cmpF, Bi.fd, Option.map_some, if_true, if_false, Bool.true_eq_false, Bool.false_eq_true, reduceIte, Bool.not_true, Bool.not_false, w_some, w_none, w_fz0, w_fz1, w_t0, w_t1, w_t2, w_t3, w_t4, w_add, w_addL, w_addT, w_sub, w_subB, w_mul, w_mulL, w_mulT, w_mod, w_div, w_lt, w_le, w_gt, w_ge, w_is, w_isnt, w_n0, w_n1, w_n2, w_n3, w_n4, w_neg, w_atL, w_atT, w_lenL, w_lenT, w_tupL, w_tupT, w_lisL, w_lisT, w_abs, w_int, w_intB, w_gcd, w_min, w_max, w_seqL, w_seqT, w_augA, w_augS, w_augM, w_intQ, w_lstQ, w_rng1, w_rng2, w_zipL, w_zipT, w_zipM, w_zipN, w_enum, w_enumT]
        exact hkk _ _
      · rw [decide_eq_true (by simpa using cz)]
        simp only [true_and, wpSs, wpS, wpE, wpX, wpO, wpC, wpI, ent, kt0, bindT, bindTs, tgsLen, wipeR, constD, owL, List.map_cons, List.map_nil, List.length_cons, List.length_nil, List.replicate, List.cons_append, List.nil_append, Nat.reduceSub, Nat.reduceAdd, List.getElem?_cons_zero, List.getElem?_cons_succ, List.getElem?_nil, List.set_cons_zero, List.set_cons_succ, opF, cmpF, Bi.fd, Option.map_some, if_true, if_false, Bool.true_eq_false, Bool.false_eq_true, reduceIte, Bool.not_true, Bool.not_false, w_some, w_none, w_fz0, w_fz1, w_t0, w_t1, w_t2, w_t3, w_t4, w_add, w_addL, w_addT, w_sub, w_subB, w_mul, w_mulL, w_mulT, w_mod, w_div, w_lt, w_le, w_gt, w_ge, w_is, w_isnt, w_n0, w_n1, w_n2, w_n3, w_n4, w_neg, w_atL, w_atT, w_lenL, w_lenT, w_tupL, w_tupT, w_lisL, w_lisT, w_abs, w_int, w_intB, w_gcd, w_min, w_max, w_seqL, w_seqT, w_augA, w_augS, w_augM, w_intQ, w_lstQ, w_rng1, w_rng2, w_zipL, w_zipT, w_zipM, w_zipN, w_enum, w_enumT]
        refine ⟨by rw [List.length_map]; exact small (by omega), ?_⟩
        refine foldW_map (fun p => qD (p.2 * p.1.getD x 0 / w.getD x 0)) (fun p acc k2 hpm hk2 => ?_) ?_
        · have hl := hp.rl p hpm
          have hs1 := hp.ss p hpm
          have hs2 := hp.rs p hpm _ (getD_mem (k := x) 0 (by omega))
          have ar := at_qD (l := p.1) (x := x) (by omega)
          simp only [pD, true_and, wpSs, wpS, wpE, wpX, wpO, wpC, wpI, ent, kt0, bindT, bindTs, tgsLen, wipeR, constD, owL, List.map_cons, List.map_nil, List.length_cons, List.length_nil, List.replicate, List.cons_append, List.nil_append, Nat.reduceSub, Nat.reduceAdd, List.getElem?_cons_zero, List.getElem?_cons_succ, List.getElem?_nil, List.set_cons_zero, List.set_cons_succ, opF, cmpF, Bi.fd, Option.map_some, if_true, if_false, Bool.true_eq_false, Bool.false_eq_true, reduceIte, Bool.not_true, Bool.not_false, w_some, w_none, w_fz0, w_fz1, w_t0, w_t1, w_t2, w_t3, w_t4, w_add, w_addL, w_addT, w_sub, w_subB, w_mul, w_mulL, w_mulT, w_mod, w_div, w_lt, w_le, w_gt, w_ge, w_is, w_isnt, w_n0, w_n1, w_n2, w_n3, w_n4, w_neg, w_atL, w_atT, w_lenL, w_lenT, w_tupL, w_tupT, w_lisL, w_lisT, w_abs, w_int, w_intB, w_gcd, w_min, w_max, w_seqL, w_seqT, w_augA, w_augS, w_augM, w_intQ, w_lstQ, w_rng1, w_rng2, w_zipL, w_zipT, w_zipM, w_zipN, w_enum, w_enumT, rowQ, aw, ar, qD0, qD1]
          have b1 := hs1.num.mul hs2.num
          have b2 := hs1.den.mul hs2.den
          have wn : 0 < (w.getD x 0).num := by
            have := pos_iff wnn
            rw [decide_eq_true (show w.getD x 0 ≠ 0 from cz), decide_eq_true_iff] at this
            exact this
          refine ⟨hs1.num.mulOk hs2.num (by decide), b1.mulOk wsz.den (by decide), hs1.den.mulOk hs2.den (by decide), b2.mulOk wsz.num (by decide), _, _, 476, 476, rfl, ?_, b1.mul wsz.den, b2.mul wsz.num, by decide, by decide, ?_⟩
          · exact Int.mul_pos (Int.mul_pos (den_pos _) (den_pos _)) wn
          · rw [div3]
            exact hk2
        · have em : mkM w pl x = pl.map fun p => p.2 * p.1.getD x 0 / w.getD x 0 := by
            unfold mkM
            rw [if_neg (show ¬ wx w x = 0 from cz)]
            rfl
          rw [em]
          have e2 : pl.map (fun p => qD (p.2 * p.1.getD x 0 / w.getD x 0)) = (pl.map fun p => p.2 * p.1.getD x 0 / w.getD x 0).map qD := by rw [List.map_map]; rfl
          rw [e2]
          refine dNeTu ?_
          rw [decide_eq_true rfl]
          simp only [true_and, wpSs, wpS, wpE, wpX, wpO, wpC, wpI, ent, kt0, bindT, bindTs, tgsLen, wipeR, constD, owL, List.map_cons, List.map_nil, List.length_cons, List.length_nil, List.replicate, List.cons_append, List.nil_append, Nat.reduceSub, Nat.reduceAdd, List.getElem?_cons_zero, List.getElem?_cons_succ, List.getElem?_nil, List.set_cons_zero, List.set_cons_succ, opF, cmpF, Bi.fd, Option.map_some, if_true, if_false, Bool.true_eq_false, Bool.false_eq_true, reduceIte, Bool.not_true, Bool.not_false, w_some, w_none, w_fz0, w_fz1, w_t0, w_t1, w_t2, w_t3, w_t4, w_add, w_addL, w_addT, w_sub, w_subB, w_mul, w_mulL, w_mulT, w_mod, w_div, w_lt, w_le, w_gt, w_ge, w_is, w_isnt, w_n0, w_n1, w_n2, w_n3, w_n4, w_neg, w_atL, w_atT, w_lenL, w_lenT, w_tupL, w_tupT, w_lisL, w_lisT, w_abs, w_int, w_intB, w_gcd, w_min, w_max, w_seqL, w_seqT, w_augA, w_augS, w_augM, w_intQ, w_lstQ, w_rng1, w_rng2, w_zipL, w_zipT, w_zipM, w_zipN, w_enum, w_enumT]
          exact hkk _ _
  · obtain ⟨y9, y10, rfl⟩ := hI
    simp only [true_and, wpSs, wpS, wpE, wpX, wpO, wpC, wpI, ent, kt0, bindT, bindTs, tgsLen, wipeR, constD, owL, List.map_cons, List.map_nil, List.length_cons, List.length_nil, List.replicate, List.cons_append, List.nil_append, Nat.reduceSub, Nat.reduceAdd, List.getElem?_cons_zero, List.getElem?_cons_succ, List.getElem?_nil, List.set_cons_zero, List.set_cons_succ, opF, cmpF, Bi.fd, Option.map_some, if_true, if_false, Bool.true_eq_false, Bool.false_eq_true, reduceIte, Bool.not_true, Bool.not_false, w_some, w_none, w_fz0, w_fz1, w_t0, w_t1, w_t2, w_t3, w_t4, w_add, w_addL, w_addT, w_sub, w_subB, w_mul, w_mulL, w_mulT, w_mod, w_div, w_lt, w_le, w_gt, w_ge, w_is, w_isnt, w_n0, w_n1, w_n2, w_n3, w_n4, w_neg, w_atL, w_atT, w_lenL, w_lenT, w_tupL, w_tupT, w_lisL, w_lisT, w_abs, w_int, w_intB, w_gcd, w_min, w_max, w_seqL, w_seqT, w_augA, w_augS, w_augM, w_intQ, w_lstQ, w_rng1, w_rng2, w_zipL, w_zipT, w_zipM, w_zipN, w_enum, w_enumT, plD]
    refine ⟨by rw [List.length_map]; exact small (by omega), ?_⟩
    refine foldW_any (R := fun _ y => ∃ f : List Rat × Rat, y = pD f ∧ (f.1.length = m ∧ (∀ x ∈ f.1, Sz 89 x) ∧ Sz 380 f.2)) (fun p acc kk hpm hkk => ?_) (fun ys hys => ?_)
    · simp only [pD, true_and, wpSs, wpS, wpE, wpX, wpO, wpC, wpI, ent, kt0, bindT, bindTs, tgsLen, wipeR, constD, owL, List.map_cons, List.map_nil, List.length_cons, List.length_nil, List.replicate, List.cons_append, List.nil_append, Nat.reduceSub, Nat.reduceAdd, List.getElem?_cons_zero, List.getElem?_cons_succ, List.getElem?_nil, List.set_cons_zero, List.set_cons_succ, opF, cmpF, Bi.fd, Option.map_some, if_true, if_false, Bool.true_eq_false, Bool.false_eq_true, reduceIte, Bool.not_true, Bool.not_false, w_some, w_none, w_fz0, w_fz1, w_t0, w_t1, w_t2, w_t3, w_t4, w_add, w_addL, w_addT, w_sub, w_subB, w_mul, w_mulL, w_mulT, w_mod, w_div, w_lt, w_le, w_gt, w_ge, w_is, w_isnt, w_n0, w_n1, w_n2, w_n3, w_n4, w_neg, w_atL, w_atT, w_lenL, w_lenT, w_tupL, w_tupT, w_lisL, w_lisT, w_abs, w_int, w_intB, w_gcd, w_min, w_max, w_seqL, w_seqT, w_augA, w_augS, w_augM, w_intQ, w_lstQ, w_rng1, w_rng2, w_zipL, w_zipT, w_zipM, w_zipN, w_enum, w_enumT]
      refine ⟨m, rfl, by omega, by omega, fun ws S hR => ?_⟩
      have hr := hR.chr
      rw [rowD_rowQ]
      exact hkk _ ⟨(_, p.2), rfl, hr.len, fun x hx => (hr.sz x hx).mono (by decide), hp.ss p hpm⟩
    obtain ⟨ot, rfl, hol, hot⟩ := paired_map hys
    have okO : PlOk m ot := ⟨by omega, fun p hp => (hot p hp).1, fun p hp => (hot p hp).2.1, fun p hp => (hot p hp).2.2⟩
    have mixM : ∀ p ∈ pl.take 1 ++ ot.drop 1, p ∈ pl ∨ p ∈ ot := fun p hp => (List.mem_append.mp hp).elim (fun h => .inl (List.mem_of_mem_take h)) fun h => .inr (List.mem_of_mem_drop h)
    have okM : PlOk m (pl.take 1 ++ ot.drop 1) := ⟨by rw [List.length_append, List.length_take, List.length_drop]; omega, fun p hpm => (mixM p hpm).elim (hp.rl p) (okO.rl p), fun p hpm => (mixM p hpm).elim (hp.rs p) (okO.rs p), fun p hpm => (mixM p hpm).elim (hp.ss p) (okO.ss p)⟩
    have okR : PlOk m pl.reverse := ⟨by rw [List.length_reverse]; exact l4, fun p hpm => hp.rl p (List.mem_reverse.mp hpm), fun p hpm => hp.rs p (List.mem_reverse.mp hpm), fun p hpm => hp.ss p (List.mem_reverse.mp hpm)⟩
    have lm := okM.len
    simp only [true_and, wpSs, wpS, wpE, wpX, wpO, wpC, wpI, ent, kt0, bindT, bindTs, tgsLen, wipeR, constD, owL, List.map_cons, List.map_nil, List.length_cons, List.length_nil, List.replicate, List.cons_append, List.nil_append, Nat.reduceSub, Nat.reduceAdd, List.getElem?_cons_zero, List.getElem?_cons_succ, List.getElem?_nil, List.set_cons_zero, List.set_cons_succ, opF, cmpF, Bi.fd, Option.map_some, if_true, if_false, Bool.true_eq_false, Bool.false_eq_true, reduceIte, Bool.not_true, Bool.not_false, w_some, w_none, w_fz0, w_fz1, w_t0, w_t1, w_t2, w_t3, w_t4, w_add, w_addL, w_addT, w_sub, w_subB, w_mul, w_mulL, w_mulT, w_mod, w_div, w_lt, w_le, w_gt, w_ge, w_is, w_isnt, w_n0, w_n1, w_n2, w_n3, w_n4, w_neg, w_atL, w_atT, w_lenL, w_lenT, w_tupL, w_tupT, w_lisL, w_lisT, w_abs, w_int, w_intB, w_gcd, w_min, w_max, w_seqL, w_seqT, w_augA, w_augS, w_augM, w_intQ, w_lstQ, w_rng1, w_rng2, w_zipL, w_zipT, w_zipM, w_zipN, w_enum, w_enumT, w_cutT]
    rw [show (1 : Int) = ((1 : Nat) : Int) from rfl, cutL_hi, cutL_lo, ← List.map_take, ← List.map_drop, ← List.map_reverse]
    refine ⟨by rw [List.length_map, List.length_map]; rw [List.length_append] at lm; exact small (by omega), ?_⟩
    rw [← List.map_append]
    have el : [PyData.tuple (ot.map pD), PyData.tuple ((pl.take 1 ++ ot.drop 1).map pD), PyData.tuple (pl.reverse.map pD)] = [ot, pl.take 1 ++ ot.drop 1, pl.reverse].map plD := rfl
    rw [el]
    refine forW_inv (I := fun _ ρ => ∃ y12, ρ = rowB m n w c pl y2 [some (.fz (chQ (made m w pl))), y9, y10, some (.fz (.tuple (ot.map pD))), y12, y13, y14, y15, y16, y17, y18, y19]) ⟨_, rfl⟩ (fun done q rest ρ kk eq hI hkk => ?_) (fun ρ hI => ?_)
    · obtain ⟨y12, rfl⟩ := hI
      have hq : q ∈ [ot, pl.take 1 ++ ot.drop 1, pl.reverse] := by rw [eq]; simp
      have okQ : CsOk m w q := ⟨m4, hlw, h.sw, by
        simp only [List.mem_cons, List.not_mem_nil, or_false] at hq
        rcases hq with rfl | rfl | rfl
        · exact okO
        · exact okM
        · exact okR⟩
      simp only [true_and, wpSs, wpS, wpE, wpX, wpO, wpC, wpI, ent, kt0, bindT, bindTs, tgsLen, wipeR, constD, owL, List.map_cons, List.map_nil, List.length_cons, List.length_nil, List.replicate, List.cons_append, List.nil_append, Nat.reduceSub, Nat.reduceAdd, List.getElem?_cons_zero, List.getElem?_cons_succ, List.getElem?_nil, List.set_cons_zero, List.set_cons_succ, opF, cmpF, Bi.fd, Option.map_some, if_true, if_false, Bool.true_eq_false, Bool.false_eq_true, reduceIte, Bool.not_true, Bool.not_false, w_some, w_none, w_fz0, w_fz1, w_t0, w_t1, w_t2, w_t3, w_t4, w_add, w_addL, w_addT, w_sub, w_subB, w_mul, w_mulL, w_mulT, w_mod, w_div, w_lt, w_le, w_gt, w_ge, w_is, w_isnt, w_n0, w_n1, w_n2, w_n3, w_n4, w_neg, w_atL, w_atT, w_lenL, w_lenT, w_tupL, w_tupT, w_lisL, w_lisT, w_abs, w_int, w_intB, w_gcd, w_min, w_max, w_seqL, w_seqT, w_augA, w_augS, w_augM, w_intQ, w_lstQ, w_rng1, w_rng2, w_zipL, w_zipT, w_zipM, w_zipN, w_enum, w_enumT]
      refine ⟨m, w, q, rfl, okQ, fun ha => ?_, fun ha => ?_⟩
      · simp only [true_and, wpSs, wpS, wpE, wpX, wpO, wpC, wpI, ent, kt0, bindT, bindTs, tgsLen, wipeR, constD, owL, List.map_cons, List.map_nil, List.length_cons, List.length_nil, List.replicate, List.cons_append, List.nil_append, Nat.reduceSub, Nat.reduceAdd, List.getElem?_cons_zero, List.getElem?_cons_succ, List.getElem?_nil, List.set_cons_zero, List.set_cons_succ, opF, cmpF, Bi.fd, Option.map_some, if_true, if_false, Bool.true_eq_false, Bool.false_eq_true, reduceIte, Bool.not_true, Bool.not_false, w_some, w_none, w_fz0, w_fz1, w_t0, w_t1, w_t2, w_t3, w_t4, w_add, w_addL, w_addT, w_sub, w_subB, w_mul, w_mulL, w_mulT, w_mod, w_div, w_lt, w_le, w_gt, w_ge, w_is, w_isnt, w_n0, w_n1, w_n2, w_n3, w_n4, w_neg, w_atL, w_atT, w_lenL, w_lenT, w_tupL, w_tupT, w_lisL, w_lisT, w_abs, w_int, w_intB, w_gcd, w_min, w_max, w_seqL, w_seqT, w_augA, w_augS, w_augM, w_intQ, w_lstQ, w_rng1, w_rng2, w_zipL, w_zipT, w_zipM, w_zipN, w_enum, w_enumT, chQ]
        refine ⟨m, w, q, rfl, okQ, ?_⟩
        rw [ha]
        refine dNeB_same ?_
        simp only [true_and, wpSs, wpS, wpE, wpX, wpO, wpC, wpI, ent, kt0, bindT, bindTs, tgsLen, wipeR, constD, owL, List.map_cons, List.map_nil, List.length_cons, List.length_nil, List.replicate, List.cons_append, List.nil_append, Nat.reduceSub, Nat.reduceAdd, List.getElem?_cons_zero, List.getElem?_cons_succ, List.getElem?_nil, List.set_cons_zero, List.set_cons_succ, opF, cmpF, Bi.fd, Option.map_some, if_true, if_false, Bool.true_eq_false, Bool.false_eq_true, reduceIte, Bool.not_true, Bool.not_false, w_some, w_none, w_fz0, w_fz1, w_t0, w_t1, w_t2, w_t3, w_t4, w_add, w_addL, w_addT, w_sub, w_subB, w_mul, w_mulL, w_mulT, w_mod, w_div, w_lt, w_le, w_gt, w_ge, w_is, w_isnt, w_n0, w_n1, w_n2, w_n3, w_n4, w_neg, w_atL, w_atT, w_lenL, w_lenT, w_tupL, w_tupT, w_lisL, w_lisT, w_abs, w_int, w_intB, w_gcd, w_min, w_max, w_seqL, w_seqT, w_augA, w_augS, w_augM, w_intQ, w_lstQ, w_rng1, w_rng2, w_zipL, w_zipT, w_zipM, w_zipN, w_enum, w_enumT]
        exact hkk _ ⟨_, rfl⟩
      · simp only [true_and, wpSs, wpS, wpE, wpX, wpO, wpC, wpI, ent, kt0, bindT, bindTs, tgsLen, wipeR, constD, owL, List.map_cons, List.map_nil, List.length_cons, List.length_nil, List.replicate, List.cons_append, List.nil_append, Nat.reduceSub, Nat.reduceAdd, List.getElem?_cons_zero, List.getElem?_cons_succ, List.getElem?_nil, List.set_cons_zero, List.set_cons_succ, opF, cmpF, Bi.fd, Option.map_some, if_true, if_false, Bool.true_eq_false, Bool.false_eq_true, reduceIte, Bool.not_true, Bool.not_false, w_some, w_none, w_fz0, w_fz1, w_t0, w_t1, w_t2, w_t3, w_t4, w_add, w_addL, w_addT, w_sub, w_subB, w_mul, w_mulL, w_mulT, w_mod, w_div, w_lt, w_le, w_gt, w_ge, w_is, w_isnt, w_n0, w_n1, w_n2, w_n3, w_n4, w_neg, w_atL, w_atT, w_lenL, w_lenT, w_tupL, w_tupT, w_lisL, w_lisT, w_abs, w_int, w_intB, w_gcd, w_min, w_max, w_seqL, w_seqT, w_augA, w_augS, w_augM, w_intQ, w_lstQ, w_rng1, w_rng2, w_zipL, w_zipT, w_zipM, w_zipN, w_enum, w_enumT]
        refine ⟨m, w, q, rfl, okQ, ?_⟩
        rw [ha]
        refine dNeB_same ?_
        simp only [true_and, wpSs, wpS, wpE, wpX, wpO, wpC, wpI, ent, kt0, bindT, bindTs, tgsLen, wipeR, constD, owL, List.map_cons, List.map_nil, List.length_cons, List.length_nil, List.replicate, List.cons_append, List.nil_append, Nat.reduceSub, Nat.reduceAdd, List.getElem?_cons_zero, List.getElem?_cons_succ, List.getElem?_nil, List.set_cons_zero, List.set_cons_succ, opF, cmpF, Bi.fd, Option.map_some, if_true, if_false, Bool.true_eq_false, Bool.false_eq_true, reduceIte, Bool.not_true, Bool.not_false, w_some, w_none, w_fz0, w_fz1, w_t0, w_t1, w_t2, w_t3, w_t4, w_add, w_addL, w_addT, w_sub, w_subB, w_mul, w_mulL, w_mulT, w_mod, w_div, w_lt, w_le, w_gt, w_ge, w_is, w_isnt, w_n0, w_n1, w_n2, w_n3, w_n4, w_neg, w_atL, w_atT, w_lenL, w_lenT, w_tupL, w_tupT, w_lisL, w_lisT, w_abs, w_int, w_intB, w_gcd, w_min, w_max, w_seqL, w_seqT, w_augA, w_augS, w_augM, w_intQ, w_lstQ, w_rng1, w_rng2, w_zipL, w_zipT, w_zipM, w_zipN, w_enum, w_enumT]
        exact hkk _ ⟨_, rfl⟩
    · obtain ⟨y12, rfl⟩ := hI
      exact fin _ _ _ _ _ _ _
/-- one turn -/
theorem seg_turn (g : H37 Γ) {K : Kt} (hK : ∀ ρ, Any37 ρ → K.nx ρ) {ρ : Rho} (hρ : Any37 ρ) : wpSs Γ lb37 ρ K := by
  obtain ⟨y2, y3, y4, y5, y6, y7, y8, y9, y10, y11, y12, y13, y14, y15, y16, y17, y18, y19, rfl⟩ := hρ
  have fin := fun m n w c pl h hp => seg_made g (K := K) (m := m) (n := n) (w := w) (c := c) (pl := pl) h hp hK (y2 := y2) (y9 := y9) (y10 := y10) (y11 := y11) (y12 := y12) (y13 := y13) (y14 := y14) (y15 := y15) (y16 := y16) (y17 := y17) (y18 := y18) (y19 := y19)
  have e : lb37 = .cons (stsGet 0 lb37) (.cons (stsGet 1 lb37) (.cons (stsGet 2 lb37) (.cons (stsGet 3 lb37) (.cons (stsGet 4 lb37) (stsDrop 5 lb37))))) := rfl
  rw [e]
  generalize stsDrop 5 lb37 = T at fin ⊢
  simp only [lb37, loopBody, stsGet, d_law, true_and, wpSs, wpS, wpE, wpX, wpO, wpC, wpI, ent, kt0, bindT, bindTs, tgsLen, wipeR, constD, owL, List.map_cons, List.map_nil, List.length_cons, List.length_nil, List.replicate, List.cons_append, List.nil_append, Nat.reduceSub, Nat.reduceAdd, List.getElem?_cons_zero, List.getElem?_cons_succ, List.getElem?_nil, List.set_cons_zero, List.set_cons_succ, opF, cmpF, Bi.fd, Option.map_some, if_true, if_false, Bool.true_eq_false, Bool.false_eq_true, reduceIte, Bool.not_true, Bool.not_false, w_some, w_none, w_fz0, w_fz1, w_t0, w_t1, w_t2, w_t3, w_t4, w_add, w_addL, w_addT, w_sub, w_subB, w_mul, w_mulL, w_mulT, w_mod, w_div, w_lt, w_le, w_gt, w_ge, w_is, w_isnt, w_n0, w_n1, w_n2, w_n3, w_n4, w_neg, w_atL, w_atT, w_lenL, w_lenT, w_tupL, w_tupT, w_lisL, w_lisT, w_abs, w_int, w_intB, w_gcd, w_min, w_max, w_seqL, w_seqT, w_augA, w_augS, w_augM, w_intQ, w_lstQ, w_rng1, w_rng2, w_zipL, w_zipT, w_zipM, w_zipN, w_enum, w_enumT, g.tk, g.ro, g.ch, g.sp, g.lt]
  refine ⟨4, rfl, by decide, by decide, fun z z0 z1 => ?_⟩
  obtain ⟨m, hm⟩ : ∃ m : Nat, 1 + z = (m : Int) := ⟨(1 + z).toNat, by omega⟩
  refine ⟨4, rfl, by decide, by decide, fun u u0 u1 => ?_⟩
  obtain ⟨n, hn⟩ : ∃ n : Nat, 1 + u = (n : Int) := ⟨(1 + u).toNat, by omega⟩
  simp only [true_and, wpSs, wpS, wpE, wpX, wpO, wpC, wpI, ent, kt0, bindT, bindTs, tgsLen, wipeR, constD, owL, List.map_cons, List.map_nil, List.length_cons, List.length_nil, List.replicate, List.cons_append, List.nil_append, Nat.reduceSub, Nat.reduceAdd, List.getElem?_cons_zero, List.getElem?_cons_succ, List.getElem?_nil, List.set_cons_zero, List.set_cons_succ, opF, cmpF, Bi.fd, Option.map_some, if_true, if_false, Bool.true_eq_false, Bool.false_eq_true, reduceIte, Bool.not_true, Bool.not_false, w_some, w_none, w_fz0, w_fz1, w_t0, w_t1, w_t2, w_t3, w_t4, w_add, w_addL, w_addT, w_sub, w_subB, w_mul, w_mulL, w_mulT, w_mod, w_div, w_lt, w_le, w_gt, w_ge, w_is, w_isnt, w_n0, w_n1, w_n2, w_n3, w_n4, w_neg, w_atL, w_atT, w_lenL, w_lenT, w_tupL, w_tupT, w_lisL, w_lisT, w_abs, w_int, w_intB, w_gcd, w_min, w_max, w_seqL, w_seqT, w_augA, w_augS, w_augM, w_intQ, w_lstQ, w_rng1, w_rng2, w_zipL, w_zipT, w_zipM, w_zipN, w_enum, w_enumT, hm, hn]
  refine ⟨m, rfl, by omega, by omega, fun ws S hR => ?_⟩
  refine ⟨m, n, rfl, by omega, by omega, by omega, by omega, fun c hc => ?_⟩
  have hr := hR.chr
  rw [rowD_rowQ]
  generalize ws.map (fun w => Rat.divInt w S) = w at *
  have h : PC m n w c := ⟨by omega, by omega, by omega, by omega, hr.len, hr.pos, hr.sz, hr.sum, hc⟩
  have m4 := h.m4
  have m1 := h.m1
  have cne : c ≠ [] := fun e => by have := hc.len; rw [e] at this; simp at this; omega
  simp only [true_and, wpSs, wpS, wpE, wpX, wpO, wpC, wpI, ent, kt0, bindT, bindTs, tgsLen, wipeR, constD, owL, List.map_cons, List.map_nil, List.length_cons, List.length_nil, List.replicate, List.cons_append, List.nil_append, Nat.reduceSub, Nat.reduceAdd, List.getElem?_cons_zero, List.getElem?_cons_succ, List.getElem?_nil, List.set_cons_zero, List.set_cons_succ, opF, cmpF, Bi.fd, Option.map_some, if_true, if_false, Bool.true_eq_false, Bool.false_eq_true, reduceIte, Bool.not_true, Bool.not_false, w_some, w_none, w_fz0, w_fz1, w_t0, w_t1, w_t2, w_t3, w_t4, w_add, w_addL, w_addT, w_sub, w_subB, w_mul, w_mulL, w_mulT, w_mod, w_div, w_lt, w_le, w_gt, w_ge, w_is, w_isnt, w_n0, w_n1, w_n2, w_n3, w_n4, w_neg, w_atL, w_atT, w_lenL, w_lenT, w_tupL, w_tupT, w_lisL, w_lisT, w_abs, w_int, w_intB, w_gcd, w_min, w_max, w_seqL, w_seqT, w_augA, w_augS, w_augM, w_intQ, w_lstQ, w_rng1, w_rng2, w_zipL, w_zipT, w_zipM, w_zipN, w_enum, w_enumT]
  refine ⟨w, c, n, 7, 7, 75, 75, rfl, ⟨cne, fun r hr => (hc.row r hr).len, h.n4, fun y hy => h.ok hy, fun y hy => h.sums hy, fun y hy => h.chsz hy, by decide, by decide, by decide⟩, ?_⟩
  have hp := h.pl1
  generalize srtP (spI w c n) = pl at *
  have hadd : addsB m w pl = true := by
    unfold addsB
    rw [List.all_eq_true]
    exact fun x hx => decide_eq_true (hp.up x (List.mem_range.mp hx))
  refine ⟨m, w, pl, rfl, ⟨m4, h.lw, h.sw, hp.toPlOk⟩, fun _ => ?_, fun hf => by rw [hadd] at hf; cases hf⟩
  have ml := made_len (m := m) (w := w) pl
  have l4 := hp.len
  have hmr : ∀ r ∈ made m w pl, r.length = pl.length := fun r hr => by
    obtain ⟨x, _, rfl⟩ := List.mem_map.mp hr
    exact mkM_len w pl x
  have okc : ∀ y, y < pl.length → ColOk 7 476 w (made m w pl) y := fun y hy => ⟨h.sw, made_sz hp.toPlOk h.sw h.lw, fun r hr => by rw [hmr r hr]; exact hy, by have := h.lw; omega, by decide⟩
  have em : chQ (made m w pl) = .tuple ((made m w pl).map rowQ) := rfl
  simp only [em, true_and, wpSs, wpS, wpE, wpX, wpO, wpC, wpI, ent, kt0, bindT, bindTs, tgsLen, wipeR, constD, owL, List.map_cons, List.map_nil, List.length_cons, List.length_nil, List.replicate, List.cons_append, List.nil_append, Nat.reduceSub, Nat.reduceAdd, List.getElem?_cons_zero, List.getElem?_cons_succ, List.getElem?_nil, List.set_cons_zero, List.set_cons_succ, opF, cmpF, Bi.fd, Option.map_some, if_true, if_false, Bool.true_eq_false, Bool.false_eq_true, reduceIte, Bool.not_true, Bool.not_false, w_some, w_none, w_fz0, w_fz1, w_t0, w_t1, w_t2, w_t3, w_t4, w_add, w_addL, w_addT, w_sub, w_subB, w_mul, w_mulL, w_mulT, w_mod, w_div, w_lt, w_le, w_gt, w_ge, w_is, w_isnt, w_n0, w_n1, w_n2, w_n3, w_n4, w_neg, w_atL, w_atT, w_lenL, w_lenT, w_tupL, w_tupT, w_lisL, w_lisT, w_abs, w_int, w_intB, w_gcd, w_min, w_max, w_seqL, w_seqT, w_augA, w_augS, w_augM, w_intQ, w_lstQ, w_rng1, w_rng2, w_zipL, w_zipT, w_zipM, w_zipN, w_enum, w_enumT, wi_int_n, wi_int_b, wi_int_i, wi_int_s, wi_int_l, wi_int_t, wi_bool_n, wi_bool_b, wi_bool_i, wi_bool_s, wi_bool_l, wi_bool_t, wi_str_n, wi_str_b, wi_str_i, wi_str_s, wi_str_l, wi_str_t, wi_tuple_n, wi_tuple_b, wi_tuple_i, wi_tuple_s, wi_tuple_l, wi_tuple_t, wi_list_n, wi_list_b, wi_list_i, wi_list_s, wi_list_l, wi_list_t]
  refine dNeI ?_
  rw [List.length_map, ml, decide_eq_true rfl]
  simp only [true_and, wpSs, wpS, wpE, wpX, wpO, wpC, wpI, ent, kt0, bindT, bindTs, tgsLen, wipeR, constD, owL, List.map_cons, List.map_nil, List.length_cons, List.length_nil, List.replicate, List.cons_append, List.nil_append, Nat.reduceSub, Nat.reduceAdd, List.getElem?_cons_zero, List.getElem?_cons_succ, List.getElem?_nil, List.set_cons_zero, List.set_cons_succ, opF, cmpF, Bi.fd, Option.map_some, if_true, if_false, Bool.true_eq_false, Bool.false_eq_true, reduceIte, Bool.not_true, Bool.not_false, w_some, w_none, w_fz0, w_fz1, w_t0, w_t1, w_t2, w_t3, w_t4, w_add, w_addL, w_addT, w_sub, w_subB, w_mul, w_mulL, w_mulT, w_mod, w_div, w_lt, w_le, w_gt, w_ge, w_is, w_isnt, w_n0, w_n1, w_n2, w_n3, w_n4, w_neg, w_atL, w_atT, w_lenL, w_lenT, w_tupL, w_tupT, w_lisL, w_lisT, w_abs, w_int, w_intB, w_gcd, w_min, w_max, w_seqL, w_seqT, w_augA, w_augS, w_augM, w_intQ, w_lstQ, w_rng1, w_rng2, w_zipL, w_zipT, w_zipM, w_zipN, w_enum, w_enumT]
  refine ⟨w, made m w pl, pl.length, 7, 476, sumSz 4 483, 380, rfl, ⟨fun e => by rw [e] at ml; simp at ml; omega, hmr, l4, okc, fun y hy => sums_le (by rw [col_len (by rw [h.lw, ml]), h.lw]; exact m4) (col_sz (okc y hy)), fun y hy => ?_, by decide, by decide, by decide⟩, ?_⟩
  · rw [made_ch hp h.lw hy]
    exact hp.ss _ (List.getElem_mem hy)
  · rw [made_spread hp h.lw]
    refine dNePl_same ?_
    simp only [true_and, wpSs, wpS, wpE, wpX, wpO, wpC, wpI, ent, kt0, bindT, bindTs, tgsLen, wipeR, constD, owL, List.map_cons, List.map_nil, List.length_cons, List.length_nil, List.replicate, List.cons_append, List.nil_append, Nat.reduceSub, Nat.reduceAdd, List.getElem?_cons_zero, List.getElem?_cons_succ, List.getElem?_nil, List.set_cons_zero, List.set_cons_succ, opF, cmpF, Bi.fd, Option.map_some, if_true, if_false, Bool.true_eq_false, Bool.false_eq_true, reduceIte, Bool.not_true, Bool.not_false, w_some, w_none, w_fz0, w_fz1, w_t0, w_t1, w_t2, w_t3, w_t4, w_add, w_addL, w_addT, w_sub, w_subB, w_mul, w_mulL, w_mulT, w_mod, w_div, w_lt, w_le, w_gt, w_ge, w_is, w_isnt, w_n0, w_n1, w_n2, w_n3, w_n4, w_neg, w_atL, w_atT, w_lenL, w_lenT, w_tupL, w_tupT, w_lisL, w_lisT, w_abs, w_int, w_intB, w_gcd, w_min, w_max, w_seqL, w_seqT, w_augA, w_augS, w_augM, w_intQ, w_lstQ, w_rng1, w_rng2, w_zipL, w_zipT, w_zipM, w_zipN, w_enum, w_enumT]
    exact fin m n w c pl h hp
theorem law37_pure {P : D → Prop} {PE : Str → Prop} (g : H37 Γ) (hP : P (.bool true)) : wpSs Γ d_law.body [none, some .dr, none, none, none, none, none, none, none, none, none, none, none, none, none, none, none, none, none, none] (kt0 P PE) := by
  have e : d_law.body = .cons (.loop (.n 2) (.rng (.cons (.int 2) .nil)) lb37) (stsDrop 1 d_law.body) := rfl
  have turn := fun (K : Kt) ρ hK hρ => seg_turn g (K := K) (ρ := ρ) hK hρ
  rw [e]
  generalize lb37 = B at turn
  simp only [stsDrop, d_law, true_and, wpSs, wpS, wpE, wpX, wpO, wpC, wpI, ent, kt0, bindT, bindTs, tgsLen, wipeR, constD, owL, List.map_cons, List.map_nil, List.length_cons, List.length_nil, List.replicate, List.cons_append, List.nil_append, Nat.reduceSub, Nat.reduceAdd, List.getElem?_cons_zero, List.getElem?_cons_succ, List.getElem?_nil, List.set_cons_zero, List.set_cons_succ, opF, cmpF, Bi.fd, Option.map_some, if_true, if_false, Bool.true_eq_false, Bool.false_eq_true, reduceIte, Bool.not_true, Bool.not_false, w_some, w_none, w_fz0, w_fz1, w_t0, w_t1, w_t2, w_t3, w_t4, w_add, w_addL, w_addT, w_sub, w_subB, w_mul, w_mulL, w_mulT, w_mod, w_div, w_lt, w_le, w_gt, w_ge, w_is, w_isnt, w_n0, w_n1, w_n2, w_n3, w_n4, w_neg, w_atL, w_atT, w_lenL, w_lenT, w_tupL, w_tupT, w_lisL, w_lisT, w_abs, w_int, w_intB, w_gcd, w_min, w_max, w_seqL, w_seqT, w_augA, w_augS, w_augM, w_intQ, w_lstQ, w_rng1, w_rng2, w_zipL, w_zipT, w_zipM, w_zipN, w_enum, w_enumT]
  refine ⟨rngOk_small (by decide) (by decide), ?_⟩
  rw [show (2 : Int).toNat = 2 from rfl, rangeD0]
  refine forW_ix (I := fun k ρ => Any37 ρ) ⟨_, _, _, _, _, _, _, _, _, _, _, _, _, _, _, _, _, _, rfl⟩ (fun k ρ kk hk hI hkk => ?_) (fun ρ hI => ?_)
  · obtain ⟨y2, y3, y4, y5, y6, y7, y8, y9, y10, y11, y12, y13, y14, y15, y16, y17, y18, y19, rfl⟩ := hI
    simp only [true_and, wpSs, wpS, wpE, wpX, wpO, wpC, wpI, ent, kt0, bindT, bindTs, tgsLen, wipeR, constD, owL, List.map_cons, List.map_nil, List.length_cons, List.length_nil, List.replicate, List.cons_append, List.nil_append, Nat.reduceSub, Nat.reduceAdd, List.getElem?_cons_zero, List.getElem?_cons_succ, List.getElem?_nil, List.set_cons_zero, List.set_cons_succ, opF, cmpF, Bi.fd, Option.map_some, if_true, if_false, Bool.true_eq_false, Bool.false_eq_true, reduceIte, Bool.not_true, Bool.not_false, w_some, w_none, w_fz0, w_fz1, w_t0, w_t1, w_t2, w_t3, w_t4, w_add, w_addL, w_addT, w_sub, w_subB, w_mul, w_mulL, w_mulT, w_mod, w_div, w_lt, w_le, w_gt, w_ge, w_is, w_isnt, w_n0, w_n1, w_n2, w_n3, w_n4, w_neg, w_atL, w_atT, w_lenL, w_lenT, w_tupL, w_tupT, w_lisL, w_lisT, w_abs, w_int, w_intB, w_gcd, w_min, w_max, w_seqL, w_seqT, w_augA, w_augS, w_augM, w_intQ, w_lstQ, w_rng1, w_rng2, w_zipL, w_zipT, w_zipM, w_zipN, w_enum, w_enumT]
    exact turn _ _ hkk ⟨_, _, _, _, _, _, _, _, _, _, _, _, _, _, _, _, _, _, rfl⟩
  · obtain ⟨y2, y3, y4, y5, y6, y7, y8, y9, y10, y11, y12, y13, y14, y15, y16, y17, y18, y19, rfl⟩ := hI
    exact hP
end
end DL

set_option Elab.async false
set_option linter.all false
set_option maxRecDepth 100000
set_option maxHeartbeats 4000000
namespace Law
open PySem PySem.Spec PyProof.Rows L2 DL
/-! the table of the program's defs -/
def gl : List (Str × D) := [("NOTHING", (.tuple [(.int 0), (.int 1)]))]
def exs : List Str := ["NotAllowed", "Missing"]
def Γ0 : Gam := ⟨fun _ _ _ _ => False, gl, [], exs⟩
theorem chk0_lowest : chkD Γ0 d_lowest (topS 7) = true := by decide +kernel
def Γ1 : Gam := Γ0.add "lowest" φ_lowest
theorem chk1_plus : chkD Γ1 d_plus (topS 8) = true := by decide +kernel
def Γ2 : Gam := Γ1.add "plus" φ_plus
theorem chk2_times : chkD Γ2 d_times (topS 9) = true := by decide +kernel
def Γ3 : Gam := Γ2.add "times" φ_times
theorem chk3_over : chkD Γ3 d_over (topS 10) = true := by decide +kernel
def Γ4 : Gam := Γ3.add "over" φ_over
theorem chk4_sign_of : chkD Γ4 d_sign_of (topS 11) = true := by decide +kernel
def Γ5 : Gam := Γ4.add "sign_of" φ_sign_of
theorem chk5_compare : chkD Γ5 d_compare (topS 12) = true := by decide +kernel
def Γ6 : Gam := Γ5.add "compare" φ_compare
theorem chk6_total_of : chkD Γ6 d_total_of (topS 14) = true := by decide +kernel
def Γ7 : Gam := Γ6.add "total_of" φ_total_of
theorem chk7_signs_of : chkD Γ7 d_signs_of (topS 15) = true := by decide +kernel
def Γ8 : Gam := Γ7.add "signs_of" φ_signs_of
theorem chk8_column_of : chkD Γ8 d_column_of (topS 16) = true := by decide +kernel
def Γ9 : Gam := Γ8.add "column_of" φ_column_of
theorem chk9_chance_of : chkD Γ9 d_chance_of (topS 17) = true := by decide +kernel
def Γ10 : Gam := Γ9.add "chance_of" φ_chance_of
theorem chk10_behind : chkD Γ10 d_behind (topS 18) = true := by decide +kernel
def Γ11 : Gam := Γ10.add "behind" φ_behind
theorem chk11_spread : chkD Γ11 d_spread (topS 19) = true := by decide +kernel
def Γ12 : Gam := Γ11.add "spread" φ_spread
theorem chk12_cascade : chkD Γ12 d_cascade (topS 21) = true := by decide +kernel
def Γ13 : Gam := Γ12.add "cascade" φ_cascade
theorem chk13_channel_of_spread : chkD Γ13 d_channel_of_spread (topS 23) = true := by decide +kernel
def Γ14 : Gam := Γ13.add "channel_of_spread" φ_channel_of_spread
theorem chk14_falling : chkD Γ14 d_falling (topS 25) = true := by decide +kernel
def Γ15 : Gam := Γ14.add "falling" φ_falling
theorem chk15_guesses_for : chkD Γ15 d_guesses_for (topS 26) = true := by decide +kernel
def Γ16 : Gam := Γ15.add "guesses_for" φ_guesses_for
theorem chk16_guesses_needed : chkD Γ16 d_guesses_needed (topS 27) = true := by decide +kernel
def Γ17 : Gam := Γ16.add "guesses_needed" φ_guesses_needed
theorem chk17_guesses_behind : chkD Γ17 d_guesses_behind (topS 28) = true := by decide +kernel
def Γ18 : Gam := Γ17.add "guesses_behind" φ_guesses_behind
def Γ19 : Gam := Γ18.add "_law_take" φTake
theorem chk19__law_lowest : chkD Γ19 d__law_lowest (topS 32) = true := by decide +kernel
def Γ20 : Gam := Γ19.add "_law_lowest" φ__law_lowest
theorem chk20__law_plus : chkD Γ20 d__law_plus (topS 33) = true := by decide +kernel
def Γ21 : Gam := Γ20.add "_law_plus" φ__law_plus
theorem chk21__law_times : chkD Γ21 d__law_times (topS 34) = true := by decide +kernel
def Γ22 : Gam := Γ21.add "_law_times" φ__law_times
theorem chk22__law_less : chkD Γ22 d__law_less (topS 35) = true := by decide +kernel
def Γ23 : Gam := Γ22.add "_law_less" φ__law_less
theorem chk23__law_total : chkD Γ23 d__law_total (topS 36) = true := by decide +kernel
def Γ24 : Gam := Γ23.add "_law_total" φ__law_total
theorem chk24__law_row : chkD Γ24 d__law_row (topS 37) = true := by decide +kernel
def Γ25 : Gam := Γ24.add "_law_row" φ__law_row
theorem chk25__law_channel : chkD Γ25 d__law_channel (topS 38) = true := by decide +kernel
def Γ26 : Gam := Γ25.add "_law_channel" φ__law_channel
def Γ27 : Gam := Γ26.add "_law_gains" φNo
def Γ28 : Gam := Γ27.add "_law_worth" φNo
theorem chk28__law_told : chkD Γ28 d__law_told (topS 41) = true := by decide +kernel
def Γ29 : Gam := Γ28.add "_law_told" φ__law_told
theorem chk29__law_adds_up : chkD Γ29 d__law_adds_up (topS 42) = true := by decide +kernel
def Γ30 : Gam := Γ29.add "_law_adds_up" φ__law_adds_up
theorem chk30__law_needed : chkD Γ30 d__law_needed (topS 43) = true := by decide +kernel
def Γ31 : Gam := Γ30.add "_law_needed" φ__law_needed
def ΓL : Gam := Γ31
theorem chk_law : chkL Γ31 d_law (topS 44) = true := by decide +kernel
end Law

set_option Elab.async false
set_option linter.all false
set_option maxRecDepth 100000
set_option maxHeartbeats 0
namespace Law
open PySem PySem.Spec PyProof.Rows L2 DL
/-! the head: what the top has written -/
def fn : List He.DefD := [dX "lowest" 7, dX "plus" 8, dX "times" 9, dX "over" 10, dX "sign_of" 11, dX "compare" 12, dX "total_of" 14, dX "signs_of" 15, dX "column_of" 16, dX "chance_of" 17, dX "behind" 18, dX "spread" 19, dX "cascade" 21, dX "channel_of_spread" 23, dX "falling" 25, dX "guesses_for" 26, dX "guesses_needed" 27, dX "guesses_behind" 28, dX "_law_draw" 30, dX "_law_take" 31, dX "_law_lowest" 32, dX "_law_plus" 33, dX "_law_times" 34, dX "_law_less" 35, dX "_law_total" 36, dX "_law_row" 37, dX "_law_channel" 38, dX "_law_gains" 39, dX "_law_worth" 40, dX "_law_told" 41, dX "_law_adds_up" 42, dX "_law_needed" 43, dX "law" 44]
def fa : List He.Fa := frees ++ (exFa exs ++ [.glo "lowest", .glo "plus", .glo "times", .glo "over", .glo "sign_of", .glo "compare", .glo "total_of", .glo "signs_of", .glo "column_of", .glo "chance_of", .glo "behind", .glo "spread", .glo "cascade", .glo "channel_of_spread", .glo "falling", .glo "guesses_for", .glo "guesses_needed", .glo "guesses_behind", .glo "_law_draw", .glo "_law_take", .glo "_law_lowest", .glo "_law_plus", .glo "_law_times", .glo "_law_less", .glo "_law_total", .glo "_law_row", .glo "_law_channel", .glo "_law_gains", .glo "_law_worth", .glo "_law_told", .glo "_law_adds_up", .glo "_law_needed", .glo "law"])
def xs : List Xa := datXs gl ++ []
def loose0 : List PySem.Str := ["GuessError", "NotAllowed", "Missing", "NOTHING", "lowest", "plus", "times", "over", "sign_of", "compare", "total_of", "signs_of", "column_of", "chance_of", "behind", "spread", "cascade", "channel_of_spread", "falling", "guesses_for", "guesses_needed", "guesses_behind", "_law_draw", "_law_take", "_law_lowest", "_law_plus", "_law_times", "_law_less", "_law_total", "_law_row"]
def loose1 : List PySem.Str := ["_law_channel", "_law_gains", "_law_worth", "_law_told", "_law_adds_up", "_law_needed"]
def loose : List PySem.Str := loose0 ++ loose1
abbrev R : PySem.W.OpenRow := PySem.W.OpenLaw.row PySem.Challenge.rw_guessbound_k37_spreads_and_guessing_on
abbrev hk : PySem.W.Hook := hookX 4 fa fn xs
def ob (s : PySem.W.SharedT) : AlX := obsXG 4 fa fn xs (HandSHeadRun.getT s)
theorem ob_eq (s : PySem.W.SharedT) : ob s = hk.obs s.abs := obsXG_eq (HandSHeadRun.getT_eq s)
theorem run (w : World) : HandSHeadRun.RunEqI R (PySem.W.view R.prog [0, 44]) hk ob 6000 loose w := by
  unfold HandSHeadRun.RunEqI
  kernel_rfl
end Law

set_option Elab.async false
set_option linter.all false
set_option maxRecDepth 100000
set_option maxHeartbeats 4000000
namespace Law
open PySem PySem.Spec PyProof.Rows L2 DL
theorem pure_law : wpSs ΓL d_law.body (entL d_law.N.length) (kt0 (fun r => r = .bool true) fun _ => False) :=
  law37_pure ⟨by rfl, by rfl, by rfl, by rfl, by rfl, by rfl, by rfl, by rfl, by rfl, by rfl, by rfl, by rfl, by rfl, by rfl⟩ rfl
end Law

set_option Elab.async false
set_option linter.all false
set_option maxRecDepth 100000
set_option maxHeartbeats 0
namespace Law
open PySem PySem.Spec PyProof.Rows L2 DL
section
variable {P : Program} {w : World} {K : PySem.W.Frag} {h : Heap} {mg : Str → Option Value} {f : Addr}
theorem facts (X : K.In h) (G : h.Ns mainGlobals mg) (hfa : mg ("law" : Str) = some (.ref f)) (c : SaysX fa fn xs K) :
    ∃ fd : FuncData, (∀ (s : Shared) (v : Value), BindsTo s fd ⟨[v], []⟩ [("script", v)]) ∧ ∀ base : Heap, K.In base → base.Ns mainGlobals mg → FnOk P w K mg base (L2.CX P w) 32 f fd ["script"] (spLaw K) := by
  obtain ⟨fd_lowest, F_lowest⟩ := def_at c 0 (x := "lowest") (j := 7) rfl
  obtain ⟨fd_plus, F_plus⟩ := def_at c 1 (x := "plus") (j := 8) rfl
  obtain ⟨fd_times, F_times⟩ := def_at c 2 (x := "times") (j := 9) rfl
  obtain ⟨fd_over, F_over⟩ := def_at c 3 (x := "over") (j := 10) rfl
  obtain ⟨fd_sign_of, F_sign_of⟩ := def_at c 4 (x := "sign_of") (j := 11) rfl
  obtain ⟨fd_compare, F_compare⟩ := def_at c 5 (x := "compare") (j := 12) rfl
  obtain ⟨fd_total_of, F_total_of⟩ := def_at c 6 (x := "total_of") (j := 14) rfl
  obtain ⟨fd_signs_of, F_signs_of⟩ := def_at c 7 (x := "signs_of") (j := 15) rfl
  obtain ⟨fd_column_of, F_column_of⟩ := def_at c 8 (x := "column_of") (j := 16) rfl
  obtain ⟨fd_chance_of, F_chance_of⟩ := def_at c 9 (x := "chance_of") (j := 17) rfl
  obtain ⟨fd_behind, F_behind⟩ := def_at c 10 (x := "behind") (j := 18) rfl
  obtain ⟨fd_spread, F_spread⟩ := def_at c 11 (x := "spread") (j := 19) rfl
  obtain ⟨fd_cascade, F_cascade⟩ := def_at c 12 (x := "cascade") (j := 21) rfl
  obtain ⟨fd_channel_of_spread, F_channel_of_spread⟩ := def_at c 13 (x := "channel_of_spread") (j := 23) rfl
  obtain ⟨fd_falling, F_falling⟩ := def_at c 14 (x := "falling") (j := 25) rfl
  obtain ⟨fd_guesses_for, F_guesses_for⟩ := def_at c 15 (x := "guesses_for") (j := 26) rfl
  obtain ⟨fd_guesses_needed, F_guesses_needed⟩ := def_at c 16 (x := "guesses_needed") (j := 27) rfl
  obtain ⟨fd_guesses_behind, F_guesses_behind⟩ := def_at c 17 (x := "guesses_behind") (j := 28) rfl
  obtain ⟨fd__law_draw, F__law_draw⟩ := def_at c 18 (x := "_law_draw") (j := 30) rfl
  obtain ⟨fd__law_take, F__law_take⟩ := def_at c 19 (x := "_law_take") (j := 31) rfl
  obtain ⟨fd__law_lowest, F__law_lowest⟩ := def_at c 20 (x := "_law_lowest") (j := 32) rfl
  obtain ⟨fd__law_plus, F__law_plus⟩ := def_at c 21 (x := "_law_plus") (j := 33) rfl
  obtain ⟨fd__law_times, F__law_times⟩ := def_at c 22 (x := "_law_times") (j := 34) rfl
  obtain ⟨fd__law_less, F__law_less⟩ := def_at c 23 (x := "_law_less") (j := 35) rfl
  obtain ⟨fd__law_total, F__law_total⟩ := def_at c 24 (x := "_law_total") (j := 36) rfl
  obtain ⟨fd__law_row, F__law_row⟩ := def_at c 25 (x := "_law_row") (j := 37) rfl
  obtain ⟨fd__law_channel, F__law_channel⟩ := def_at c 26 (x := "_law_channel") (j := 38) rfl
  obtain ⟨fd__law_gains, F__law_gains⟩ := def_at c 27 (x := "_law_gains") (j := 39) rfl
  obtain ⟨fd__law_worth, F__law_worth⟩ := def_at c 28 (x := "_law_worth") (j := 40) rfl
  obtain ⟨fd__law_told, F__law_told⟩ := def_at c 29 (x := "_law_told") (j := 41) rfl
  obtain ⟨fd__law_adds_up, F__law_adds_up⟩ := def_at c 30 (x := "_law_adds_up") (j := 42) rfl
  obtain ⟨fd__law_needed, F__law_needed⟩ := def_at c 31 (x := "_law_needed") (j := 43) rfl
  obtain ⟨fd_law, F_law⟩ := def_at c 32 (x := "law") (j := 44) rfl
  have e := hfa.symm.trans (He.glo_ok X G (fa_glo (exs := exs) c 32 (f := .glo "law") rfl))
  cases e
  refine ⟨fd_law, fun s v => (FunD.bindsA (ps := ["script"]) F_law fun _ _ _ _ _ _ us hl => match us, hl with | [_], _ => rfl) s [v] rfl, fun base _ _ => ?_⟩
  have g0 : GOk (glb0 P w K mg base Γ0) := g0_ok (exs := exs) X G c rfl rfl
  have e0 : EOk (glb0 P w K mg base Γ0) := e0_ok (exs := exs) X G c rfl
  have g1 : GOk (glbk P w K mg base 1 Γ1) := g0.add e0 (d := d_lowest) (st := topS 7) φ_lowest F_lowest (He.glo_ok X G (fa_glo (exs := exs) c 0 (f := .glo "lowest") rfl)) chk0_lowest (fun _ _ _ _ _ _ us hl => match us, hl with | [_, _], _ => rfl) (imp_lowest)
  have e1 : EOk (glbk P w K mg base 1 Γ1) := e0.grow (nm := "lowest") (φ := φ_lowest)
  have g2 : GOk (glbk P w K mg base 2 Γ2) := g1.add e1 (d := d_plus) (st := topS 8) φ_plus F_plus (He.glo_ok X G (fa_glo (exs := exs) c 1 (f := .glo "plus") rfl)) chk1_plus (fun _ _ _ _ _ _ us hl => match us, hl with | [_, _], _ => rfl) (imp_plus (by rfl))
  have e2 : EOk (glbk P w K mg base 2 Γ2) := e1.grow (nm := "plus") (φ := φ_plus)
  have g3 : GOk (glbk P w K mg base 3 Γ3) := g2.add e2 (d := d_times) (st := topS 9) φ_times F_times (He.glo_ok X G (fa_glo (exs := exs) c 2 (f := .glo "times") rfl)) chk2_times (fun _ _ _ _ _ _ us hl => match us, hl with | [_, _], _ => rfl) (imp_times (by rfl))
  have e3 : EOk (glbk P w K mg base 3 Γ3) := e2.grow (nm := "times") (φ := φ_times)
  have g4 : GOk (glbk P w K mg base 4 Γ4) := g3.add e3 (d := d_over) (st := topS 10) φ_over F_over (He.glo_ok X G (fa_glo (exs := exs) c 3 (f := .glo "over") rfl)) chk3_over (fun _ _ _ _ _ _ us hl => match us, hl with | [_, _], _ => rfl) (imp_over (by rfl))
  have e4 : EOk (glbk P w K mg base 4 Γ4) := e3.grow (nm := "over") (φ := φ_over)
  have g5 : GOk (glbk P w K mg base 5 Γ5) := g4.add e4 (d := d_sign_of) (st := topS 11) φ_sign_of F_sign_of (He.glo_ok X G (fa_glo (exs := exs) c 4 (f := .glo "sign_of") rfl)) chk4_sign_of (fun _ _ _ _ _ _ us hl => match us, hl with | [_], _ => rfl) (imp_sign_of)
  have e5 : EOk (glbk P w K mg base 5 Γ5) := e4.grow (nm := "sign_of") (φ := φ_sign_of)
  have g6 : GOk (glbk P w K mg base 6 Γ6) := g5.add e5 (d := d_compare) (st := topS 12) φ_compare F_compare (He.glo_ok X G (fa_glo (exs := exs) c 5 (f := .glo "compare") rfl)) chk5_compare (fun _ _ _ _ _ _ us hl => match us, hl with | [_, _], _ => rfl) (imp_compare (by rfl))
  have e6 : EOk (glbk P w K mg base 6 Γ6) := e5.grow (nm := "compare") (φ := φ_compare)
  have g7 : GOk (glbk P w K mg base 7 Γ7) := g6.add e6 (d := d_total_of) (st := topS 14) φ_total_of F_total_of (He.glo_ok X G (fa_glo (exs := exs) c 6 (f := .glo "total_of") rfl)) chk6_total_of (fun _ _ _ _ _ _ us hl => match us, hl with | [_], _ => rfl) (imp_total_of (by rfl) (by rfl))
  have e7 : EOk (glbk P w K mg base 7 Γ7) := e6.grow (nm := "total_of") (φ := φ_total_of)
  have g8 : GOk (glbk P w K mg base 8 Γ8) := g7.add e7 (d := d_signs_of) (st := topS 15) φ_signs_of F_signs_of (He.glo_ok X G (fa_glo (exs := exs) c 7 (f := .glo "signs_of") rfl)) chk7_signs_of (fun _ _ _ _ _ _ us hl => match us, hl with | [_], _ => rfl) (imp_signs_of)
  have e8 : EOk (glbk P w K mg base 8 Γ8) := e7.grow (nm := "signs_of") (φ := φ_signs_of)
  have g9 : GOk (glbk P w K mg base 9 Γ9) := g8.add e8 (d := d_column_of) (st := topS 16) φ_column_of F_column_of (He.glo_ok X G (fa_glo (exs := exs) c 8 (f := .glo "column_of") rfl)) chk8_column_of (fun _ _ _ _ _ _ us hl => match us, hl with | [_, _, _], _ => rfl) (imp_column_of (by rfl))
  have e9 : EOk (glbk P w K mg base 9 Γ9) := e8.grow (nm := "column_of") (φ := φ_column_of)
  have g10 : GOk (glbk P w K mg base 10 Γ10) := g9.add e9 (d := d_chance_of) (st := topS 17) φ_chance_of F_chance_of (He.glo_ok X G (fa_glo (exs := exs) c 9 (f := .glo "chance_of") rfl)) chk9_chance_of (fun _ _ _ _ _ _ us hl => match us, hl with | [_, _, _], _ => rfl) (imp_chance_of (by rfl) (by rfl))
  have e10 : EOk (glbk P w K mg base 10 Γ10) := e9.grow (nm := "chance_of") (φ := φ_chance_of)
  have g11 : GOk (glbk P w K mg base 11 Γ11) := g10.add e10 (d := d_behind) (st := topS 18) φ_behind F_behind (He.glo_ok X G (fa_glo (exs := exs) c 10 (f := .glo "behind") rfl)) chk10_behind (fun _ _ _ _ _ _ us hl => match us, hl with | [_, _, _], _ => rfl) (imp_behind (by rfl) (by rfl) (by rfl) (by rfl))
  have e11 : EOk (glbk P w K mg base 11 Γ11) := e10.grow (nm := "behind") (φ := φ_behind)
  have g12 : GOk (glbk P w K mg base 12 Γ12) := g11.add e11 (d := d_spread) (st := topS 19) φ_spread F_spread (He.glo_ok X G (fa_glo (exs := exs) c 11 (f := .glo "spread") rfl)) chk11_spread (fun _ _ _ _ _ _ us hl => match us, hl with | [_, _], _ => rfl) (imp_spread (by rfl) (by rfl) (by rfl) (by rfl) (by rfl))
  have e12 : EOk (glbk P w K mg base 12 Γ12) := e11.grow (nm := "spread") (φ := φ_spread)
  have g13 : GOk (glbk P w K mg base 13 Γ13) := g12.add e12 (d := d_cascade) (st := topS 21) φ_cascade F_cascade (He.glo_ok X G (fa_glo (exs := exs) c 12 (f := .glo "cascade") rfl)) chk12_cascade (fun _ _ _ _ _ _ us hl => match us, hl with | [_, _], _ => rfl) (imp_cascade (by rfl) (by rfl))
  have e13 : EOk (glbk P w K mg base 13 Γ13) := e12.grow (nm := "cascade") (φ := φ_cascade)
  have g14 : GOk (glbk P w K mg base 14 Γ14) := g13.add e13 (d := d_channel_of_spread) (st := topS 23) φ_channel_of_spread F_channel_of_spread (He.glo_ok X G (fa_glo (exs := exs) c 13 (f := .glo "channel_of_spread") rfl)) chk13_channel_of_spread (fun _ _ _ _ _ _ us hl => match us, hl with | [_, _], _ => rfl) (imp_channel_of_spread (by rfl) (by rfl) (by rfl) (by rfl))
  have e14 : EOk (glbk P w K mg base 14 Γ14) := e13.grow (nm := "channel_of_spread") (φ := φ_channel_of_spread)
  have g15 : GOk (glbk P w K mg base 15 Γ15) := g14.add e14 (d := d_falling) (st := topS 25) φ_falling F_falling (He.glo_ok X G (fa_glo (exs := exs) c 14 (f := .glo "falling") rfl)) chk14_falling (fun _ _ _ _ _ _ us hl => match us, hl with | [_], _ => rfl) (imp_falling (by rfl))
  have e15 : EOk (glbk P w K mg base 15 Γ15) := e14.grow (nm := "falling") (φ := φ_falling)
  have g16 : GOk (glbk P w K mg base 16 Γ16) := g15.add e15 (d := d_guesses_for) (st := topS 26) φ_guesses_for F_guesses_for (He.glo_ok X G (fa_glo (exs := exs) c 15 (f := .glo "guesses_for") rfl)) chk15_guesses_for (fun _ _ _ _ _ _ us hl => match us, hl with | [_], _ => rfl) (imp_guesses_for (by rfl) (by rfl) (by rfl) (by rfl))
  have e16 : EOk (glbk P w K mg base 16 Γ16) := e15.grow (nm := "guesses_for") (φ := φ_guesses_for)
  have g17 : GOk (glbk P w K mg base 17 Γ17) := g16.add e16 (d := d_guesses_needed) (st := topS 27) φ_guesses_needed F_guesses_needed (He.glo_ok X G (fa_glo (exs := exs) c 16 (f := .glo "guesses_needed") rfl)) chk16_guesses_needed (fun _ _ _ _ _ _ us hl => match us, hl with | [_], _ => rfl) (imp_guesses_needed (by rfl))
  have e17 : EOk (glbk P w K mg base 17 Γ17) := e16.grow (nm := "guesses_needed") (φ := φ_guesses_needed)
  have g18 : GOk (glbk P w K mg base 18 Γ18) := g17.add e17 (d := d_guesses_behind) (st := topS 28) φ_guesses_behind F_guesses_behind (He.glo_ok X G (fa_glo (exs := exs) c 17 (f := .glo "guesses_behind") rfl)) chk17_guesses_behind (fun _ _ _ _ _ _ us hl => match us, hl with | [_, _], _ => rfl) (imp_guesses_behind (by rfl) (by rfl) (by rfl) (by rfl) (by rfl))
  have e18 : EOk (glbk P w K mg base 18 Γ18) := e17.grow (nm := "guesses_behind") (φ := φ_guesses_behind)
  have g19 : GOk (glbk P w K mg base 19 Γ19) := g18.grow (nm := "_law_take") (φ := φTake) (He.glo_ok X G (fa_glo (exs := exs) c 19 (f := .glo "_law_take") rfl)) F__law_take.kp (FunD.bindsN (ps := ["draw", "many"]) F__law_take fun _ _ _ _ _ _ us hl => match us, hl with | [_, _], _ => rfl) (ok_take F__law_take (fr_ok (exs := exs) X G c 0 rfl) (fr_ok (exs := exs) X G c 9 rfl))
  have e19 : EOk (glbk P w K mg base 19 Γ19) := e18.grow (nm := "_law_take") (φ := φTake)
  have g20 : GOk (glbk P w K mg base 20 Γ20) := g19.add e19 (d := d__law_lowest) (st := topS 32) φ__law_lowest F__law_lowest (He.glo_ok X G (fa_glo (exs := exs) c 20 (f := .glo "_law_lowest") rfl)) chk19__law_lowest (fun _ _ _ _ _ _ us hl => match us, hl with | [_, _], _ => rfl) (imp__law_lowest)
  have e20 : EOk (glbk P w K mg base 20 Γ20) := e19.grow (nm := "_law_lowest") (φ := φ__law_lowest)
  have g21 : GOk (glbk P w K mg base 21 Γ21) := g20.add e20 (d := d__law_plus) (st := topS 33) φ__law_plus F__law_plus (He.glo_ok X G (fa_glo (exs := exs) c 21 (f := .glo "_law_plus") rfl)) chk20__law_plus (fun _ _ _ _ _ _ us hl => match us, hl with | [_, _], _ => rfl) (imp__law_plus (by rfl))
  have e21 : EOk (glbk P w K mg base 21 Γ21) := e20.grow (nm := "_law_plus") (φ := φ__law_plus)
  have g22 : GOk (glbk P w K mg base 22 Γ22) := g21.add e21 (d := d__law_times) (st := topS 34) φ__law_times F__law_times (He.glo_ok X G (fa_glo (exs := exs) c 22 (f := .glo "_law_times") rfl)) chk21__law_times (fun _ _ _ _ _ _ us hl => match us, hl with | [_, _], _ => rfl) (imp__law_times (by rfl))
  have e22 : EOk (glbk P w K mg base 22 Γ22) := e21.grow (nm := "_law_times") (φ := φ__law_times)
  have g23 : GOk (glbk P w K mg base 23 Γ23) := g22.add e22 (d := d__law_less) (st := topS 35) φ__law_less F__law_less (He.glo_ok X G (fa_glo (exs := exs) c 23 (f := .glo "_law_less") rfl)) chk22__law_less (fun _ _ _ _ _ _ us hl => match us, hl with | [_, _], _ => rfl) (imp__law_less)
  have e23 : EOk (glbk P w K mg base 23 Γ23) := e22.grow (nm := "_law_less") (φ := φ__law_less)
  have g24 : GOk (glbk P w K mg base 24 Γ24) := g23.add e23 (d := d__law_total) (st := topS 36) φ__law_total F__law_total (He.glo_ok X G (fa_glo (exs := exs) c 24 (f := .glo "_law_total") rfl)) chk23__law_total (fun _ _ _ _ _ _ us hl => match us, hl with | [_], _ => rfl) (imp__law_total (by rfl))
  have e24 : EOk (glbk P w K mg base 24 Γ24) := e23.grow (nm := "_law_total") (φ := φ__law_total)
  have g25 : GOk (glbk P w K mg base 25 Γ25) := g24.add e24 (d := d__law_row) (st := topS 37) φ__law_row F__law_row (He.glo_ok X G (fa_glo (exs := exs) c 25 (f := .glo "_law_row") rfl)) chk24__law_row (fun _ _ _ _ _ _ us hl => match us, hl with | [_, _], _ => rfl) (imp__law_row (by rfl) (by rfl))
  have e25 : EOk (glbk P w K mg base 25 Γ25) := e24.grow (nm := "_law_row") (φ := φ__law_row)
  have g26 : GOk (glbk P w K mg base 26 Γ26) := g25.add e25 (d := d__law_channel) (st := topS 38) φ__law_channel F__law_channel (He.glo_ok X G (fa_glo (exs := exs) c 26 (f := .glo "_law_channel") rfl)) chk25__law_channel (fun _ _ _ _ _ _ us hl => match us, hl with | [_, _, _], _ => rfl) (imp__law_channel (by rfl) (by rfl))
  have e26 : EOk (glbk P w K mg base 26 Γ26) := e25.grow (nm := "_law_channel") (φ := φ__law_channel)
  have g27 : GOk (glbk P w K mg base 27 Γ27) := g26.none (nm := "_law_gains") (He.glo_ok X G (fa_glo (exs := exs) c 27 (f := .glo "_law_gains") rfl)) F__law_gains.kp (FunD.bindsN (ps := ["draw", "m", "most"]) F__law_gains fun _ _ _ _ _ _ us hl => match us, hl with | [_, _, _], _ => rfl)
  have e27 : EOk (glbk P w K mg base 27 Γ27) := e26.grow (nm := "_law_gains") (φ := φNo)
  have g28 : GOk (glbk P w K mg base 28 Γ28) := g27.none (nm := "_law_worth") (He.glo_ok X G (fa_glo (exs := exs) c 28 (f := .glo "_law_worth") rfl)) F__law_worth.kp (FunD.bindsN (ps := ["prior", "channel", "gains"]) F__law_worth fun _ _ _ _ _ _ us hl => match us, hl with | [_, _, _], _ => rfl)
  have e28 : EOk (glbk P w K mg base 28 Γ28) := e27.grow (nm := "_law_worth") (φ := φNo)
  have g29 : GOk (glbk P w K mg base 29 Γ29) := g28.add e28 (d := d__law_told) (st := topS 41) φ__law_told F__law_told (He.glo_ok X G (fa_glo (exs := exs) c 29 (f := .glo "_law_told") rfl)) chk28__law_told (fun _ _ _ _ _ _ us hl => match us, hl with | [_, _], _ => rfl) (imp__law_told (by rfl) (show ("Missing" : Str) ∈ exs by decide +kernel))
  have e29 : EOk (glbk P w K mg base 29 Γ29) := e28.grow (nm := "_law_told") (φ := φ__law_told)
  have g30 : GOk (glbk P w K mg base 30 Γ30) := g29.add e29 (d := d__law_adds_up) (st := topS 42) φ__law_adds_up F__law_adds_up (He.glo_ok X G (fa_glo (exs := exs) c 30 (f := .glo "_law_adds_up") rfl)) chk29__law_adds_up (fun _ _ _ _ _ _ us hl => match us, hl with | [_, _], _ => rfl) (imp__law_adds_up (by rfl) (by rfl))
  have e30 : EOk (glbk P w K mg base 30 Γ30) := e29.grow (nm := "_law_adds_up") (φ := φ__law_adds_up)
  have g31 : GOk (glbk P w K mg base 31 Γ31) := g30.add e30 (d := d__law_needed) (st := topS 43) φ__law_needed F__law_needed (He.glo_ok X G (fa_glo (exs := exs) c 31 (f := .glo "_law_needed") rfl)) chk30__law_needed (fun _ _ _ _ _ _ us hl => match us, hl with | [_], _ => rfl) (imp__law_needed (by rfl) (by rfl) (by rfl))
  have e31 : EOk (glbk P w K mg base 31 Γ31) := e30.grow (nm := "_law_needed") (φ := φ__law_needed)
  exact law_ok g31 e31 F_law F__law_draw (He.glo_ok X G (fa_glo (exs := exs) c 18 (f := .glo "_law_draw") rfl)) chk_law (FunD.bindsN (ps := ["script"]) F__law_draw fun _ _ _ _ _ _ us hl => match us, hl with | [_], _ => rfl)
    ((ok_draw (k := 0) F__law_draw (fr_ok (exs := exs) X G c 6 rfl) (fr_ok (exs := exs) X G c 9 rfl)).mono (show 1 ≤ 31 by decide)) pure_law
end
end Law
open PySem PySem.W PySem.Calls PyProof.Rows
theorem PySem.Challenge.cw_guessbound_k37_spreads_and_guessing_on_holds : PySem.Challenge.rw_guessbound_k37_spreads_and_guessing_on.Holds := by
  w_on; o_law
  refine HandSHeadRun.head_imp (r := OpenLaw.row PySem.Challenge.rw_guessbound_k37_spreads_and_guessing_on) (q := view (OpenLaw.row PySem.Challenge.rw_guessbound_k37_spreads_and_guessing_on).prog [0, 44]) (H := Law.hk) (ob := Law.ob) (M := 6000) (loose := Law.loose) (d := HandSHeadRun.topDef (OpenLaw.row PySem.Challenge.rw_guessbound_k37_spreads_and_guessing_on).prog 44) (kwd := []) Law.ob_eq
    Law.run (by kernel_rfl) (by kernel_rfl) (by kernel_rfl) (by rfl) (by first | assumption | decide +kernel) (by decide +kernel) ⟨rfl, rfl, rfl, rfl, rfl, by decide +kernel⟩ ?hw ?hc
  case hw => w_witness2
  case hc =>
    exact DL.walk_end (l := PySem.Challenge.rw_guessbound_k37_spreads_and_guessing_on) (n := 32) rfl (by kernel_rfl) (by kernel_rfl) ⟨rfl, by decide, by decide⟩ fun w K h mg f KX G hm c => Law.facts KX G hm c

