import PyProof.Rows.All
import Wide.All
import OpenK.AllK
import Wide.FinOn
import HandS.ForMost
import HandS.Deep
import HandS.Walk
import HandS.TupMul
import HandS.TupAny
import HandS.Wide
import HandS.WideBits
import HandS.SortInts
import HandS.TupLe
import HandS.Flow
import HandS.Conv
import HandS.IsInst
import HandS.Small
import HandS.Style
import HandS.NoneIn
import HandS.SortRule
import HandS.More
import KE.GoesMore
import HandS.Zip
import HandS.Rev
import HandS.Gcd
import HandS.SetFor
import HandS.DictComp
import KE.BitLaws
import HandS.SortKw
import HandS.SetBool
import HandS.Strs
import KE.DataMinMax
import HandS.TupSets
import KE.KDictList
import HandS.Iter
import HandS.Dict
import KE.DatumOrd
import KE.OsArith
import PySem.Challenge.RW_sketchkeep_k06_space_summaries
set_option Elab.async false
set_option linter.all false
set_option maxRecDepth 100000
namespace Zk
open PySem PySem.Spec PyProof.Rows L2

/-- data without addresses -/
inductive D where
  | non | bl (b : Bool) | int (i : Int) | str (s : Str)
  | tup (xs : List D) | lst (xs : List D)
  | dK (kvs : List (Key × D)) | dT (kvs : List (List Key × D))
  | set (xs : List Int)
  /-- a built-in type -/
  | ty (n : String)
  /-- a tuple of the module's own -/
  | con (xs : List D)
  /-- the script -/
  | scr (xs : List Int)

/-- nothing within can change -/
def imm : D → Bool
  | .non => true
  | .bl _ => true
  | .int _ => true
  | .str _ => true
  | .ty _ => true
  | .tup xs => imms xs
  | .con xs => imms xs
  | .lst _ => false
  | .dK _ => false
  | .dT _ => false
  | .set _ => false
  | .scr _ => false
where imms : List D → Bool
  | [] => true
  | d :: ds => imm d && imms ds
abbrev imms := imm.imms
@[simp] theorem imm_non : imm .non = true := by simp [imm]
@[simp] theorem imm_bl (b : Bool) : imm (.bl b) = true := by simp [imm]
@[simp] theorem imm_int (b : Int) : imm (.int b) = true := by simp [imm]
@[simp] theorem imm_str (b : Str) : imm (.str b) = true := by simp [imm]
@[simp] theorem imm_ty (b : String) : imm (.ty b) = true := by simp [imm]
@[simp] theorem imm_tup (xs : List D) : imm (.tup xs) = imms xs := by simp [imm]
@[simp] theorem imm_con (xs : List D) : imm (.con xs) = imms xs := by simp [imm]
@[simp] theorem imm_lst (xs : List D) : imm (.lst xs) = false := by simp [imm]
@[simp] theorem imm_dK (xs : List (Key × D)) : imm (.dK xs) = false := by simp [imm]
@[simp] theorem imm_dT (xs : List (List Key × D)) : imm (.dT xs) = false := by simp [imm]
@[simp] theorem imm_set (xs : List Int) : imm (.set xs) = false := by simp [imm]
@[simp] theorem imm_scr (xs : List Int) : imm (.scr xs) = false := by simp [imm]
@[simp] theorem imms_nil : imms [] = true := by simp [imms, imm.imms]
@[simp] theorem imms_cons (d : D) (ds : List D) : imms (d :: ds) = (imm d && imms ds) := by simp [imms, imm.imms]
theorem imms_all : ∀ ds : List D, imms ds = ds.all imm
  | [] => by simp
  | d :: ds => by simp [imms_all ds]
theorem imms_append (a b : List D) : imms (a ++ b) = (imms a && imms b) := by simp [imms_all]
theorem imms_map {α : Type} (f : α → D) (h : ∀ x, imm (f x) = true) (xs : List α) : imms (xs.map f) = true := by
  simp [imms_all, List.all_eq_true, h]

/-- flat: a changeable thing of unchangeable ones -/
def flat : D → Bool
  | .lst xs => imms xs
  | .dK kvs => imms (kvs.map (·.2))
  | .dT kvs => imms (kvs.map (·.2))
  | .set _ => true
  | _ => false

/-- a list that is locked, or a written one -/
def SqF (K : PySem.W.Frag) (H : Hp) (a : Addr) (xs : List V) : Prop :=
  (∃ o, H a = some (.frz o (.lst xs))) ∨
    ∃ (o : Obj) (its : Array Value) (n : Nat), K.lookup a = some o ∧ o.cls = .type "list" ∧ o.dict = none ∧ o.data = .seq its n ∧ its.size ≤ sizeLine ∧ Vals xs its.toList
theorem SqF.sq {K : PySem.W.Frag} {H : Hp} {a : Addr} {xs : List V} (h : SqF K H a xs) : SqL K H a xs := by
  rcases h with ⟨o, h⟩ | h
  · exact .inl (.inr ⟨o, h⟩)
  · exact .inr h
/-- a written tuple -/
def SqU (K : PySem.W.Frag) (a : Addr) (xs : List V) : Prop :=
    ∃ (o : Obj) (its : Array Value) (n : Nat), K.lookup a = some o ∧ o.cls = .type "tuple" ∧ o.data = .seq its n ∧ its.size ≤ sizeLine ∧ Vals xs its.toList
theorem SqU.sq {K : PySem.W.Frag} {H : Hp} {a : Addr} {xs : List V} (h : SqU K a xs) : SqT K H a xs := .inr h
mutual
/-- v stands for d; what can change within is at addresses of Z -/
inductive Rp (K : PySem.W.Frag) (Z : Addr → Prop) (H : Hp) : V → D → Prop
  | non : Rp K Z H .non .non
  | bl (b : Bool) : Rp K Z H (.bl b) (.bl b)
  | int (i : Int) : Rp K Z H (.int i) (.int i)
  | str (x : Str) : Rp K Z H (.str x) (.str x)
  | ty (x : String) : Rp K Z H (.ty x) (.ty x)
  | con {a : Addr} {vs : List V} {ds : List D} : SqU K a vs → Rps K Z H vs ds → Rp K Z H (.ref a) (.con ds)
  | tup {a : Addr} {vs : List V} {ds : List D} : H a = some (.tup vs) → Rps K Z H vs ds → Rp K Z H (.ref a) (.tup ds)
  | lst {a : Addr} {vs : List V} {ds : List D} : Z a → H a = some (.lst vs) → Rps K Z H vs ds → Rp K Z H (.ref a) (.lst ds)
  | dK {a : Addr} {kvs : List (Key × V)} {kds : List (Key × D)} : Z a → Rd H a (.dK kvs) → kvs.map (·.1) = kds.map (·.1) → Rps K Z H (kvs.map (·.2)) (kds.map (·.2)) → Rp K Z H (.ref a) (.dK kds)
  | dT {a : Addr} {kvs : List (List Key × V)} {kds : List (List Key × D)} : Z a → H a = some (.dT kvs) → kvs.map (·.1) = kds.map (·.1) → Rps K Z H (kvs.map (·.2)) (kds.map (·.2)) → Rp K Z H (.ref a) (.dT kds)
  | set {a : Addr} {S : Int → Bool} {n : Nat} {xs : List Int} : Z a → H a = some (.set S n) → (∀ i, S i = decide (i ∈ xs)) → n = xs.length → xs.Nodup → Rp K Z H (.ref a) (.set xs)
  | scr {a : Addr} {ns : List Int} : SqF K H a (ns.map V.int) → Rp K Z H (.ref a) (.scr ns)
inductive Rps (K : PySem.W.Frag) (Z : Addr → Prop) (H : Hp) : List V → List D → Prop
  | nil : Rps K Z H [] []
  | cons {v : V} {d : D} {vs : List V} {ds : List D} : Rp K Z H v d → Rps K Z H vs ds → Rps K Z H (v :: vs) (d :: ds)
end

/-- what lies frozen, the tuples and what is locked persist -/
structure Pers (Z : Addr → Prop) (H : Hp) (Z' : Addr → Prop) (H' : Hp) : Prop where
  zz : ∀ a, Z a → Z' a
  hz : ∀ a o, Z a → H a = some o → H' a = some o
  tp : ∀ a o, H a = some o → ¬ Mut (some o) → H' a = some o
theorem Pers.refl (Z : Addr → Prop) (H : Hp) : Pers Z H Z H := ⟨fun _ h => h, fun _ _ _ h => h, fun _ _ h _ => h⟩
theorem Pers.trans {Z Z1 Z2 : Addr → Prop} {H H1 H2 : Hp} (a : Pers Z H Z1 H1) (b : Pers Z1 H1 Z2 H2) : Pers Z H Z2 H2 :=
  ⟨fun x h => b.zz x (a.zz x h), fun x o h e => b.hz x o (a.zz x h) (a.hz x o h e), fun x o e n => b.tp x o (a.tp x o e n) n⟩
theorem Pers.sqF {K : PySem.W.Frag} {Z Z' : Addr → Prop} {H H' : Hp} (p : Pers Z H Z' H') {a : Addr} {vs : List V} (h : SqF K H a vs) : SqF K H' a vs := by
  rcases h with ⟨o, h⟩ | h
  · exact .inl ⟨o, p.tp _ _ h fun z => z⟩
  · exact .inr h
theorem rdP {Z Z' : Addr → Prop} {H H' : Hp} (p : Pers Z H Z' H') {a : Addr} {u : HO} (z : Z a) (h : Rd H a u) : Rd H' a u := h.elim (fun h => .inl (p.hz _ _ z h)) fun ⟨o, h⟩ => .inr ⟨o, p.tp _ _ h fun z => z⟩
mutual
theorem Rp.pers {K : PySem.W.Frag} {Z Z' : Addr → Prop} {H H' : Hp} (p : Pers Z H Z' H') : ∀ {v : V} {d : D}, Rp K Z H v d → Rp K Z' H' v d
  | _, _, .non => .non
  | _, _, .bl b => .bl b
  | _, _, .int i => .int i
  | _, _, .str x => .str x
  | _, _, .ty x => .ty x
  | _, _, .tup h r => .tup (p.tp _ _ h fun z => z) (Rps.pers p r)
  | _, _, .con h r => .con h (Rps.pers p r)
  | _, _, .lst z h r => .lst (p.zz _ z) (p.hz _ _ z h) (Rps.pers p r)
  | _, _, .dK z h e r => .dK (p.zz _ z) (rdP p z h) e (Rps.pers p r)
  | _, _, .dT z h e r => .dT (p.zz _ z) (p.hz _ _ z h) e (Rps.pers p r)
  | _, _, .set z h e n d => .set (p.zz _ z) (p.hz _ _ z h) e n d
  | _, _, .scr h => .scr (p.sqF h)
theorem Rps.pers {K : PySem.W.Frag} {Z Z' : Addr → Prop} {H H' : Hp} (p : Pers Z H Z' H') : ∀ {vs : List V} {ds : List D}, Rps K Z H vs ds → Rps K Z' H' vs ds
  | _, _, .nil => .nil
  | _, _, .cons h t => .cons (Rp.pers p h) (Rps.pers p t)
end
mutual
/-- unchangeable data hang on the tuples alone -/
theorem Rp.immz {K : PySem.W.Frag} {Z Z' : Addr → Prop} {H H' : Hp} (tp : ∀ a o, H a = some o → ¬ Mut (some o) → H' a = some o) : ∀ {v : V} {d : D}, Rp K Z H v d → imm d = true → Rp K Z' H' v d
  | _, _, .non, _ => .non
  | _, _, .bl b, _ => .bl b
  | _, _, .int i, _ => .int i
  | _, _, .str x, _ => .str x
  | _, _, .ty x, _ => .ty x
  | _, .tup ds, .tup h r, i => .tup (tp _ _ h fun z => z) (Rps.immz tp r (by simpa using i))
  | _, .con ds, .con h r, i => .con h (Rps.immz tp r (by simpa using i))
  | _, _, .lst _ _ _, i => by simp at i
  | _, _, .dK _ _ _ _, i => by simp at i
  | _, _, .dT _ _ _ _, i => by simp at i
  | _, _, .set _ _ _ _ _, i => by simp at i
  | _, _, .scr _, i => by simp at i
theorem Rps.immz {K : PySem.W.Frag} {Z Z' : Addr → Prop} {H H' : Hp} (tp : ∀ a o, H a = some o → ¬ Mut (some o) → H' a = some o) : ∀ {vs : List V} {ds : List D}, Rps K Z H vs ds → imms ds = true → Rps K Z' H' vs ds
  | _, _, .nil, _ => .nil
  | _, _, .cons (d := d) h t, i => by
    simp only [imms_cons, Bool.and_eq_true] at i
    exact .cons (Rp.immz tp h i.1) (Rps.immz tp t i.2)
end
theorem Rps.len {K : PySem.W.Frag} {Z : Addr → Prop} {H : Hp} : ∀ {vs : List V} {ds : List D}, Rps K Z H vs ds → vs.length = ds.length
  | _, _, .nil => rfl
  | _, _, .cons _ t => by simp [Rps.len t]
theorem Rps.get {K : PySem.W.Frag} {Z : Addr → Prop} {H : Hp} : ∀ {vs : List V} {ds : List D}, Rps K Z H vs ds → ∀ {i : Nat} {v : V}, vs[i]? = some v → ∃ d, ds[i]? = some d ∧ Rp K Z H v d
  | _, _, .nil, i, v, e => by simp at e
  | _, _, .cons h t, 0, v, e => by simp at e; subst e; exact ⟨_, rfl, h⟩
  | _, _, .cons h t, i + 1, v, e => by
    obtain ⟨d, e2, r⟩ := Rps.get t (i := i) (v := v) (by simpa using e)
    exact ⟨d, by simpa using e2, r⟩
theorem Rps.getD {K : PySem.W.Frag} {Z : Addr → Prop} {H : Hp} : ∀ {vs : List V} {ds : List D}, Rps K Z H vs ds → ∀ {i : Nat} {d : D}, ds[i]? = some d → ∃ v, vs[i]? = some v ∧ Rp K Z H v d
  | _, _, .nil, i, v, e => by simp at e
  | _, _, .cons h t, 0, v, e => by simp at e; subst e; exact ⟨_, rfl, h⟩
  | _, _, .cons h t, i + 1, v, e => by
    obtain ⟨d, e2, r⟩ := Rps.getD t (i := i) (d := v) (by simpa using e)
    exact ⟨d, by simpa using e2, r⟩
theorem Rps.append {K : PySem.W.Frag} {Z : Addr → Prop} {H : Hp} : ∀ {vs ws : List V} {ds es : List D}, Rps K Z H vs ds → Rps K Z H ws es → Rps K Z H (vs ++ ws) (ds ++ es)
  | _, _, _, _, .nil, r => r
  | _, _, _, _, .cons h t, r => .cons h (Rps.append t r)
theorem Rps.take {K : PySem.W.Frag} {Z : Addr → Prop} {H : Hp} : ∀ {vs : List V} {ds : List D} (n : Nat), Rps K Z H vs ds → Rps K Z H (vs.take n) (ds.take n)
  | _, _, 0, _ => by simp; exact .nil
  | _, _, n + 1, .nil => by simp; exact .nil
  | _, _, n + 1, .cons h t => .cons h (Rps.take n t)
theorem Rps.drop {K : PySem.W.Frag} {Z : Addr → Prop} {H : Hp} : ∀ {vs : List V} {ds : List D} (n : Nat), Rps K Z H vs ds → Rps K Z H (vs.drop n) (ds.drop n)
  | _, _, 0, r => by simpa using r
  | _, _, n + 1, .nil => by simp; exact .nil
  | _, _, n + 1, .cons h t => Rps.drop n t
theorem Rps.set {K : PySem.W.Frag} {Z : Addr → Prop} {H : Hp} {v : V} {d : D} (h : Rp K Z H v d) : ∀ {vs : List V} {ds : List D} (n : Nat), Rps K Z H vs ds → Rps K Z H (vs.set n v) (ds.set n d)
  | _, _, _, .nil => by simp; exact .nil
  | _, _, 0, .cons _ t => .cons h t
  | _, _, n + 1, .cons g t => .cons g (Rps.set h n t)
theorem Rps.rev {K : PySem.W.Frag} {Z : Addr → Prop} {H : Hp} : ∀ {vs : List V} {ds : List D}, Rps K Z H vs ds → Rps K Z H vs.reverse ds.reverse
  | _, _, .nil => by simp; exact .nil
  | _, _, .cons h t => by simp only [List.reverse_cons]; exact Rps.append (Rps.rev t) (.cons h .nil)
theorem Rps.ints {K : PySem.W.Frag} {Z : Addr → Prop} {H : Hp} : ∀ {vs : List V} {ns : List Int}, Rps K Z H vs (ns.map D.int) → vs = ns.map V.int
  | _, [], .nil => rfl
  | _, n :: ns, .cons h t => by cases h; simp [Rps.ints t]
theorem Rps.ofInts {K : PySem.W.Frag} {Z : Addr → Prop} {H : Hp} : ∀ (ns : List Int), Rps K Z H (ns.map V.int) (ns.map D.int)
  | [] => .nil
  | n :: ns => .cons (.int n) (Rps.ofInts ns)
/-- three lists, item by item -/
inductive All3 {α β γ : Type} (P : α → β → γ → Prop) : List α → List β → List γ → Prop
  | nil : All3 P [] [] []
  | cons {a b c as bs cs} : P a b c → All3 P as bs cs → All3 P (a :: as) (b :: bs) (c :: cs)

/-- v stands for d, the addresses rs are ours alone, n levels deep -/
def Own (K : PySem.W.Frag) (Z : Addr → Prop) (H : Hp) : Nat → V → D → List Addr → Prop
  | 0, v, d, rs => rs = [] ∧ Rp K Z H v d
  | n + 1, v, d, rs =>
    match d with
    | .lst ds => ∃ a vs rss, v = .ref a ∧ H a = some (.lst vs) ∧ ¬ Z a ∧ All3 (Own K Z H n) vs ds rss ∧ rs = a :: rss.flatten
    | .dK kds => ∃ a kvs rss, v = .ref a ∧ H a = some (.dK kvs) ∧ ¬ Z a ∧ kvs.map (·.1) = kds.map (·.1) ∧ All3 (Own K Z H n) (kvs.map (·.2)) (kds.map (·.2)) rss ∧ rs = a :: rss.flatten
    | .dT kds => ∃ a kvs rss, v = .ref a ∧ H a = some (.dT kvs) ∧ ¬ Z a ∧ kvs.map (·.1) = kds.map (·.1) ∧ All3 (Own K Z H n) (kvs.map (·.2)) (kds.map (·.2)) rss ∧ rs = a :: rss.flatten
    | .set xs => ∃ a S m, v = .ref a ∧ H a = some (.set S m) ∧ ¬ Z a ∧ (∀ i, S i = decide (i ∈ xs)) ∧ m = xs.length ∧ xs.Nodup ∧ rs = [a]
    | _ => rs = [] ∧ Rp K Z H v d

section
variable {K : PySem.W.Frag} {Z Z' : Addr → Prop} {H H' : Hp}
theorem All3.imp {α β γ : Type} {P Q : α → β → γ → Prop} : ∀ {as : List α} {bs : List β} {cs : List γ}, All3 P as bs cs → (∀ a b c, c ∈ cs → P a b c → Q a b c) → All3 Q as bs cs
  | _, _, _, .nil, _ => .nil
  | _, _, _, .cons h t, f => .cons (f _ _ _ List.mem_cons_self h) (t.imp fun a b c m => f a b c (List.mem_cons_of_mem _ m))
theorem mem_flatten_of {a : Addr} {rs : List Addr} {rss : List (List Addr)} (h : rs ∈ rss) (m : a ∈ rs) : a ∈ rss.flatten := List.mem_flatten.mpr ⟨rs, h, m⟩

theorem Own.imm : ∀ {n : Nat} {v : V} {d : D} {rs : List Addr}, Own K Z H n v d rs → imm d = true → rs = [] ∧ Rp K Z H v d
  | 0, _, _, _, h, _ => h
  | n + 1, _, .non, _, h, _ => h
  | n + 1, _, .bl _, _, h, _ => h
  | n + 1, _, .int _, _, h, _ => h
  | n + 1, _, .str _, _, h, _ => h
  | n + 1, _, .ty _, _, h, _ => h
  | n + 1, _, .tup _, _, h, _ => h
  | n + 1, _, .con _, _, h, _ => h
theorem Own.ofImm : ∀ {n : Nat} {v : V} {d : D}, Rp K Z H v d → Zk.imm d = true → Own K Z H n v d []
  | 0, _, _, h, _ => ⟨rfl, h⟩
  | n + 1, _, .non, h, _ => ⟨rfl, h⟩
  | n + 1, _, .bl _, h, _ => ⟨rfl, h⟩
  | n + 1, _, .int _, h, _ => ⟨rfl, h⟩
  | n + 1, _, .str _, h, _ => ⟨rfl, h⟩
  | n + 1, _, .ty _, h, _ => ⟨rfl, h⟩
  | n + 1, _, .tup _, h, _ => ⟨rfl, h⟩
  | n + 1, _, .con _, h, _ => ⟨rfl, h⟩
/-- an owned thing stands while its own addresses stand and what lies frozen persists -/
theorem Own.keep (p : Pers Z H Z' H') : ∀ {n : Nat} {v : V} {d : D} {rs : List Addr}, (∀ a ∈ rs, H' a = H a ∧ ¬ Z' a) → Own K Z H n v d rs → Own K Z' H' n v d rs
  | 0, _, _, _, k, h => ⟨h.1, h.2.pers p⟩
  | n + 1, _, .lst ds, rs, k, h => by
    obtain ⟨a, vs, rss, e, ha, z, r, rfl⟩ := h
    obtain ⟨k1, k2⟩ := k a List.mem_cons_self
    exact ⟨a, vs, rss, e, k1.trans ha, k2, r.imp fun v d rs m o => Own.keep p (fun b hb => k b (List.mem_cons_of_mem _ (mem_flatten_of m hb))) o, rfl⟩
  | n + 1, _, .dK ds, rs, k, h => by
    obtain ⟨a, vs, rss, e, ha, z, e2, r, rfl⟩ := h
    obtain ⟨k1, k2⟩ := k a List.mem_cons_self
    exact ⟨a, vs, rss, e, k1.trans ha, k2, e2, r.imp fun v d rs m o => Own.keep p (fun b hb => k b (List.mem_cons_of_mem _ (mem_flatten_of m hb))) o, rfl⟩
  | n + 1, _, .dT ds, rs, k, h => by
    obtain ⟨a, vs, rss, e, ha, z, e2, r, rfl⟩ := h
    obtain ⟨k1, k2⟩ := k a List.mem_cons_self
    exact ⟨a, vs, rss, e, k1.trans ha, k2, e2, r.imp fun v d rs m o => Own.keep p (fun b hb => k b (List.mem_cons_of_mem _ (mem_flatten_of m hb))) o, rfl⟩
  | n + 1, _, .set xs, rs, k, h => by
    obtain ⟨a, S, m, e, ha, z, e2, e3, e4, rfl⟩ := h
    obtain ⟨k1, k2⟩ := k a List.mem_cons_self
    exact ⟨a, S, m, e, k1.trans ha, k2, e2, e3, e4, rfl⟩
  | n + 1, _, .non, rs, k, h => ⟨h.1, h.2.pers p⟩
  | n + 1, _, .bl _, rs, k, h => ⟨h.1, h.2.pers p⟩
  | n + 1, _, .int _, rs, k, h => ⟨h.1, h.2.pers p⟩
  | n + 1, _, .str _, rs, k, h => ⟨h.1, h.2.pers p⟩
  | n + 1, _, .ty _, rs, k, h => ⟨h.1, h.2.pers p⟩
  | n + 1, _, .tup _, rs, k, h => ⟨h.1, h.2.pers p⟩
  | n + 1, _, .con _, rs, k, h => ⟨h.1, h.2.pers p⟩
  | n + 1, _, .scr _, rs, k, h => ⟨h.1, h.2.pers p⟩
theorem All3.rps {P : V → D → List Addr → Prop} {R : V → D → Prop} (hR : ∀ v d rs, P v d rs → Rp K Z H v d) : ∀ {vs : List V} {ds : List D} {rss : List (List Addr)}, All3 P vs ds rss → Rps K Z H vs ds
  | _, _, _, .nil => .nil
  | _, _, _, .cons h t => .cons (hR _ _ _ h) (All3.rps (R := R) hR t)
/-- what is ours may be frozen -/
theorem Own.freeze (p : Pers Z H Z' H') : ∀ {n : Nat} {v : V} {d : D} {rs : List Addr}, (∀ a ∈ rs, H' a = H a ∧ Z' a) → Own K Z H n v d rs → Rp K Z' H' v d
  | 0, _, _, _, k, h => h.2.pers p
  | n + 1, _, .lst ds, rs, k, h => by
    obtain ⟨a, vs, rss, e, ha, z, r, rfl⟩ := h
    obtain ⟨k1, k2⟩ := k a List.mem_cons_self
    subst e
    exact .lst k2 (k1.trans ha) (All3.rps (R := fun _ _ => True) (P := fun v d rs => Rp K Z' H' v d) (fun _ _ _ h => h) (r.imp fun v d rs m o => Own.freeze p (fun b hb => k b (List.mem_cons_of_mem _ (mem_flatten_of m hb))) o))
  | n + 1, _, .dK ds, rs, k, h => by
    obtain ⟨a, vs, rss, e, ha, z, e2, r, rfl⟩ := h
    obtain ⟨k1, k2⟩ := k a List.mem_cons_self
    subst e
    exact .dK k2 (.inl (k1.trans ha)) e2 (All3.rps (R := fun _ _ => True) (P := fun v d rs => Rp K Z' H' v d) (fun _ _ _ h => h) (r.imp fun v d rs m o => Own.freeze p (fun b hb => k b (List.mem_cons_of_mem _ (mem_flatten_of m hb))) o))
  | n + 1, _, .dT ds, rs, k, h => by
    obtain ⟨a, vs, rss, e, ha, z, e2, r, rfl⟩ := h
    obtain ⟨k1, k2⟩ := k a List.mem_cons_self
    subst e
    exact .dT k2 (k1.trans ha) e2 (All3.rps (R := fun _ _ => True) (P := fun v d rs => Rp K Z' H' v d) (fun _ _ _ h => h) (r.imp fun v d rs m o => Own.freeze p (fun b hb => k b (List.mem_cons_of_mem _ (mem_flatten_of m hb))) o))
  | n + 1, _, .set xs, rs, k, h => by
    obtain ⟨a, S, m, e, ha, z, e2, e3, e4, rfl⟩ := h
    obtain ⟨k1, k2⟩ := k a List.mem_cons_self
    subst e
    exact .set k2 (k1.trans ha) e2 e3 e4
  | n + 1, _, .non, rs, k, h => h.2.pers p
  | n + 1, _, .bl _, rs, k, h => h.2.pers p
  | n + 1, _, .int _, rs, k, h => h.2.pers p
  | n + 1, _, .str _, rs, k, h => h.2.pers p
  | n + 1, _, .ty _, rs, k, h => h.2.pers p
  | n + 1, _, .tup _, rs, k, h => h.2.pers p
  | n + 1, _, .con _, rs, k, h => h.2.pers p
  | n + 1, _, .scr _, rs, k, h => h.2.pers p
/-- it may be read -/
theorem Own.rd {n : Nat} {v : V} {d : D} {rs : List Addr} (h : Own K Z H n v d rs) : Rp K (fun _ => True) H v d :=
  Own.freeze (Z' := fun _ => True) (H' := H) ⟨fun _ _ => trivial, fun _ _ _ e => e, fun _ _ e _ => e⟩ (fun _ _ => ⟨rfl, trivial⟩) h
theorem Rp.rd {v : V} {d : D} (h : Rp K Z H v d) : Rp K (fun _ => True) H v d := h.pers ⟨fun _ _ => trivial, fun _ _ _ e => e, fun _ _ e _ => e⟩
theorem All3.flat {P : V → D → List Addr → Prop} {C : Addr → Prop} (hP : ∀ v d rs, P v d rs → ∀ a ∈ rs, C a) : ∀ {vs : List V} {ds : List D} {rss : List (List Addr)}, All3 P vs ds rss → ∀ a ∈ rss.flatten, C a
  | _, _, _, .nil, a, h => by simp at h
  | _, _, _, .cons h t, a, m => by
    rw [List.flatten_cons, List.mem_append] at m
    rcases m with m | m
    · exact hP _ _ _ h a m
    · exact All3.flat hP t a m
/-- what is ours is changeable and not frozen -/
theorem Own.mut : ∀ {n : Nat} {v : V} {d : D} {rs : List Addr}, Own K Z H n v d rs → ∀ a ∈ rs, Mut (H a) ∧ ¬ Z a
  | 0, _, _, _, h, a, m => by rw [h.1] at m; simp at m
  | n + 1, _, .lst ds, rs, h, a, m => by
    obtain ⟨b, vs, rss, e, ha, z, r, rfl⟩ := h
    rcases List.mem_cons.mp m with rfl | m
    · exact ⟨by rw [ha]; trivial, z⟩
    · exact All3.flat (C := fun a => Mut (H a) ∧ ¬ Z a) (fun v d rs o => Own.mut o) r a m
  | n + 1, _, .dK ds, rs, h, a, m => by
    obtain ⟨b, vs, rss, e, ha, z, _, r, rfl⟩ := h
    rcases List.mem_cons.mp m with rfl | m
    · exact ⟨by rw [ha]; trivial, z⟩
    · exact All3.flat (C := fun a => Mut (H a) ∧ ¬ Z a) (fun v d rs o => Own.mut o) r a m
  | n + 1, _, .dT ds, rs, h, a, m => by
    obtain ⟨b, vs, rss, e, ha, z, _, r, rfl⟩ := h
    rcases List.mem_cons.mp m with rfl | m
    · exact ⟨by rw [ha]; trivial, z⟩
    · exact All3.flat (C := fun a => Mut (H a) ∧ ¬ Z a) (fun v d rs o => Own.mut o) r a m
  | n + 1, _, .set xs, rs, h, a, m => by
    obtain ⟨b, S, k, e, ha, z, _, _, _, rfl⟩ := h
    have e : a = b := by simpa using m
    subst e
    exact ⟨by rw [ha]; trivial, z⟩
  | n + 1, _, .non, rs, h, a, m => by rw [h.1] at m; simp at m
  | n + 1, _, .bl _, rs, h, a, m => by rw [h.1] at m; simp at m
  | n + 1, _, .int _, rs, h, a, m => by rw [h.1] at m; simp at m
  | n + 1, _, .str _, rs, h, a, m => by rw [h.1] at m; simp at m
  | n + 1, _, .ty _, rs, h, a, m => by rw [h.1] at m; simp at m
  | n + 1, _, .tup _, rs, h, a, m => by rw [h.1] at m; simp at m
  | n + 1, _, .con _, rs, h, a, m => by rw [h.1] at m; simp at m
  | n + 1, _, .scr _, rs, h, a, m => by rw [h.1] at m; simp at m
end
end Zk
namespace Zk
open PySem PySem.Spec PyProof.Rows L2

/-- the slots: a thing and how many levels of it are ours -/
abbrev Ev := List (Option (D × Nat))
def eg (E : Ev) (i : Nat) : Option (D × Nat) := (E[i]?).join
/-- an expression's end: a slot (read later), or a thing -/
inductive Op where
  | slot (i : Nat)
  | val (d : D) (n : Nat)

abbrev Rs := Nat → List Addr
def ow (R : Rs) (a : Addr) : Prop := ∃ i, a ∈ R i
def put (R : Rs) (i : Nat) (rs : List Addr) : Rs := fun k => if k = i then rs else R k
theorem put_same {R : Rs} {i : Nat} {rs : List Addr} : put R i rs i = rs := if_pos rfl
theorem put_ne {R : Rs} {i k : Nat} {rs : List Addr} (h : k ≠ i) : put R i rs k = R k := if_neg h

structure S (K : PySem.W.Frag) (Z : Addr → Prop) (H : Hp) (σ : L2.St) (E : Ev) (R : Rs) : Prop where
  len : σ.length = E.length
  slot : ∀ i d n, eg E i = some (d, n) → ∃ v, σ[i]? = some (some v) ∧ Own K Z H n v d (R i)
  emp : ∀ i, eg E i = none → R i = []
  nd : ∀ i, (R i).Nodup
  dj : ∀ i j a, a ∈ R i → a ∈ R j → i = j
  zd : ∀ a, Z a → H a ≠ none

/-- what a step may change: O are the things that are ours -/
structure Step (Z : Addr → Prop) (H : Hp) (O : Addr → Prop) (Z' : Addr → Prop) (H' : Hp) (O' : Addr → Prop) : Prop where
  zz : ∀ a, Z a → Z' a
  zn : ∀ a, Z' a → Z a ∨ H a = none ∨ O a
  hh : ∀ a o, H a = some o → ¬ O a → H' a = some o
  on : ∀ a, O' a → O a ∨ H a = none
  dm : ∀ a, H a ≠ none → H' a ≠ none

section
variable {K : PySem.W.Frag} {Z Z' Z1 Z2 : Addr → Prop} {H H' H1 H2 : Hp} {O O' O1 O2 : Addr → Prop} {σ : L2.St} {E E' : Ev} {R R' : Rs}
theorem Step.refl : Step Z H O Z H O := ⟨fun _ h => h, fun _ h => .inl h, fun _ _ h _ => h, fun _ h => .inl h, fun _ h => h⟩
theorem Step.trans (a : Step Z H O Z1 H1 O1) (b : Step Z1 H1 O1 Z2 H2 O2) : Step Z H O Z2 H2 O2 where
  zz := fun x h => b.zz x (a.zz x h)
  zn := fun x h => by
    rcases b.zn x h with h | h | h
    · exact a.zn x h
    · by_cases q : H x = none
      · exact .inr (.inl q)
      · exact absurd h (a.dm x q)
    · rcases a.on x h with h | h
      · exact .inr (.inr h)
      · exact .inr (.inl h)
  hh := fun x o e n => b.hh x o (a.hh x o e n) fun h => by
    rcases a.on x h with h | h
    · exact n h
    · rw [e] at h; cases h
  on := fun x h => by
    rcases b.on x h with h | h
    · exact a.on x h
    · by_cases q : H x = none
      · exact .inr q
      · exact absurd h (a.dm x q)
  dm := fun x h => b.dm x (a.dm x h)
theorem S.owns (s : S K Z H σ E R) {a : Addr} (h : ow R a) : Mut (H a) ∧ ¬ Z a := by
  obtain ⟨i, m⟩ := h
  cases q : eg E i with
  | none => rw [s.emp i q] at m; simp at m
  | some dn =>
    obtain ⟨v, _, o⟩ := s.slot i dn.1 dn.2 q
    exact o.mut a m
theorem S.there (s : S K Z H σ E R) {a : Addr} (h : ow R a) : H a ≠ none := fun e => by
  have := (s.owns h).1
  rw [e] at this; exact this
/-- across a step the frozen and the tuples persist -/
theorem Step.pers (t : Step Z H O Z' H' O') (hO : ∀ a, O a → Mut (H a) ∧ ¬ Z a) : Pers Z H Z' H' :=
  ⟨t.zz, fun a o z e => t.hh a o e fun h => (hO a h).2 z, fun a o e n => t.hh a o e fun h => n (by have := (hO a h).1; rw [e] at this; exact this)⟩
theorem S.pers (s : S K Z H σ E R) (t : Step Z H (ow R) Z' H' O') : Pers Z H Z' H' := t.pers fun _ h => s.owns h
/-- a thing that was made ahead of a step stands behind it -/
theorem S.pend (s : S K Z H σ E R) (t : Step Z H (ow R) Z' H' O') {n : Nat} {v : V} {d : D} {rs : List Addr} (h : Own K Z H n v d rs) (f : ∀ a ∈ rs, ¬ ow R a) :
    Own K Z' H' n v d rs ∧ ∀ a ∈ rs, ¬ O' a := by
  have there : ∀ a ∈ rs, H a ≠ none := fun a m e => by
    have := (h.mut a m).1
    rw [e] at this; exact this
  refine ⟨h.keep (s.pers t) fun a m => ⟨?_, fun z => ?_⟩, fun a m z => ?_⟩
  · cases q : H a with
    | none => exact absurd q (there a m)
    | some o => exact t.hh a o q (f a m)
  · rcases t.zn a z with z | z | z
    · exact (h.mut a m).2 z
    · exact there a m z
    · exact f a m z
  · rcases t.on a z with z | z
    · exact f a m z
    · exact there a m z
end

/-- what an end stands for -/
def OV (K : PySem.W.Frag) (Z : Addr → Prop) (H : Hp) (σ : L2.St) (v : V) : Op → List Addr → Prop
  | .slot i, rs => σ[i]? = some (some v) ∧ rs = []
  | .val d n, rs => Own K Z H n v d rs
/-- an expression by data -/
abbrev Fe := Ev → Option (Op × Ev)
abbrev Ft := Ev → Option (Bool × Ev)
abbrev Fa := Ev → Option (List Op × Ev)
/-- how a statement ends -/
inductive Fl where
  | nx | bk | ct | rt (d : D) (n : Nat)
abbrev Fs := Ev → Option (Fl × Ev)

/-- fresh: it is no slot's, it was ours or is new -/
structure Fr (R : Rs) (H : Hp) (R' : Rs) (rs : List Addr) : Prop where
  nd : rs.Nodup
  no : ∀ a ∈ rs, ¬ ow R' a
  of : ∀ a ∈ rs, ow R a ∨ H a = none
theorem Fr.nil {R R' : Rs} {H : Hp} : Fr R H R' [] := ⟨List.nodup_nil, fun _ h => by simp at h, fun _ h => by simp at h⟩

def eOf (K : PySem.W.Frag) (f : Fe) : TE := fun σ H Q => ∃ Z E R, S K Z H σ E R ∧ ∃ o E', f E = some (o, E') ∧
  ∀ v Z' H' R' rs, S K Z' H' σ E' R' → Step Z H (ow R) Z' H' (ow R') → OV K Z' H' σ v o rs → Fr R H R' rs → Q v H'
def cOf (K : PySem.W.Frag) (f : Ft) : TT := fun σ H Q => ∃ Z E R, S K Z H σ E R ∧ ∃ b E', f E = some (b, E') ∧
  ∀ Z' H' R', S K Z' H' σ E' R' → Step Z H (ow R) Z' H' (ow R') → Q b H'
def aOf (K : PySem.W.Frag) (f : Fa) : TA := fun σ H Q => ∃ Z E R, S K Z H σ E R ∧ ∃ os E', f E = some (os, E') ∧
  ∀ vs Z' H' R' rss, S K Z' H' σ E' R' → Step Z H (ow R) Z' H' (ow R') → All3 (OV K Z' H' σ) vs os rss → Fr R H R' rss.flatten → Q vs H'
/-- a statement; w: the slots that it may set -/
def sOf (K : PySem.W.Frag) (w : List Nat) (f : Fs) : TS := fun D σ H => ∃ Z E R, S K Z H σ E R ∧ ∃ fl E', f E = some (fl, E') ∧
  ∀ σ' Z' H' R', S K Z' H' σ' E' R' → Step Z H (ow R) Z' H' (ow R') → (∀ i, i ∉ w → σ'[i]? = σ[i]?) →
    match fl with
    | .nx => D.nx σ' H'
    | .bk => D.bk σ' H'
    | .ct => D.ct σ' H'
    | .rt d n => ∀ v rs, Own K Z' H' n v d rs → Fr R H R' rs → D.rt v H'

abbrev AE (X : Cx) (e : Expr) (f : Fe) : Prop := PE X e (eOf X.K f)
abbrev AT (X : Cx) (e : Expr) (f : Ft) : Prop := PT X e (cOf X.K f)
abbrev AA (X : Cx) (es : List Expr) (f : Fa) : Prop := PA X es (aOf X.K f)
abbrev AS (X : Cx) (st : Stmt) (w : List Nat) (f : Fs) : Prop := PS X st (sOf X.K w f)
abbrev ASs (X : Cx) (st : List Stmt) (w : List Nat) (f : Fs) : Prop := PSs X st (sOf X.K w f)

theorem PE.mono {X : Cx} {e : Expr} {t t' : TE} (h : PE X e t) (m : ∀ σ H Q, t' σ H Q → t σ H Q) : PE X e t' := ⟨fun pins s σ H Q I q => h.run pins s σ H Q I (m σ H Q q)⟩
theorem PT.mono {X : Cx} {e : Expr} {t t' : TT} (h : PT X e t) (m : ∀ σ H Q, t' σ H Q → t σ H Q) : PT X e t' := ⟨fun pins s σ H Q I q => h.run pins s σ H Q I (m σ H Q q)⟩
theorem PW.mono {X : Cx} {e : Expr} {t t' : TT} (h : PW X e t) (m : ∀ σ H Q, t' σ H Q → t σ H Q) : PW X e t' := ⟨fun wh pins s σ H Q I q => h.run wh pins s σ H Q I (m σ H Q q)⟩
theorem PA.mono {X : Cx} {e : List Expr} {t t' : TA} (h : PA X e t) (m : ∀ σ H Q, t' σ H Q → t σ H Q) : PA X e t' := ⟨fun pos pins s σ H Q I q => h.run pos pins s σ H Q I (m σ H Q q)⟩
theorem PS.mono {X : Cx} {e : Stmt} {t t' : TS} (h : PS X e t) (m : ∀ D σ H, t' D σ H → t D σ H) : PS X e t' := ⟨fun pins s σ H D I q => h.run pins s σ H D I (m D σ H q)⟩
theorem PSs.mono {X : Cx} {e : List Stmt} {t t' : TS} (h : PSs X e t) (m : ∀ D σ H, t' D σ H → t D σ H) : PSs X e t' := ⟨fun pins s σ H D I q => h.run pins s σ H D I (m D σ H q)⟩

def rd (E : Ev) : Op → Option D
  | .slot i => (eg E i).map (·.1)
  | .val d _ => some d
/-- where an end comes to lie elsewhere, too: a slot's changeable thing is frozen -/
def tk (E : Ev) : Op → Option (D × Nat × Ev)
  | .slot i => match eg E i with
    | none => none
    | some (d, n) => if imm d = true then some (d, 9, E) else some (d, 0, E.set i (some (d, 0)))
  | .val d n => some (d, n, E)
/-- where an end is handed on for good -/
def mv (E : Ev) : Op → Option (D × Nat × Ev)
  | .slot i => match eg E i with
    | none => none
    | some (d, n) => if imm d = true then some (d, 9, E) else some (d, n, E.set i none)
  | .val d n => some (d, n, E)

section
variable {K : PySem.W.Frag} {Z Z' Z1 Z2 : Addr → Prop} {H H' H1 H2 : Hp} {O O' O1 O2 : Addr → Prop} {σ : L2.St} {E E' : Ev} {R R' : Rs}
theorem eg_set_same {i : Nat} {c : Option (D × Nat)} (h : i < E.length) : eg (E.set i c) i = c := by
  unfold eg; rw [List.getElem?_set_self h]; rfl
theorem eg_set_ne {i j : Nat} {c : Option (D × Nat)} (h : j ≠ i) : eg (E.set i c) j = eg E j := by
  unfold eg; rw [List.getElem?_set_ne (Ne.symm h)]
theorem eg_lt {i : Nat} {c : D × Nat} (h : eg E i = some c) : i < E.length := by
  unfold eg at h
  by_cases q : i < E.length
  · exact q
  · rw [List.getElem?_eq_none (by omega)] at h; cases h
theorem S.read (s : S K Z H σ E R) {v : V} {o : Op} {d : D} {rs : List Addr} (h : OV K Z H σ v o rs) (e : rd E o = some d) : Rp K (fun _ => True) H v d := by
  cases o with
  | slot i =>
    obtain ⟨h1, h2⟩ := h
    simp only [Zk.rd] at e
    cases q : eg E i with
    | none => rw [q] at e; cases e
    | some dn =>
      rw [q] at e
      obtain ⟨v', e1, o1⟩ := s.slot i dn.1 dn.2 q
      rw [h1] at e1
      cases e1
      cases e
      exact o1.rd
  | val d' n =>
    cases e
    exact Own.rd h
/-- an end made ahead of a step -/
theorem S.pendO (s : S K Z H σ E R) (t : Step Z H (ow R) Z' H' (ow R')) {v : V} {o : Op} {rs : List Addr} (h : OV K Z H σ v o rs) (f : ∀ a ∈ rs, ¬ ow R a) : OV K Z' H' σ v o rs ∧ ∀ a ∈ rs, ¬ ow R' a := by
  cases o with
  | slot i =>
    obtain ⟨h1, h2⟩ := h
    subst h2
    exact ⟨⟨h1, rfl⟩, fun a m => by simp at m⟩
  | val d n => exact s.pend t h f
/-- a slot set anew -/
theorem S.setSlot (s : S K Z H σ E R) {i : Nat} {v : V} {d : D} {n : Nat} {rs : List Addr} (hi : i < E.length) (h : Own K Z H n v d rs) (nd : rs.Nodup) (no : ∀ a ∈ rs, ¬ ow R a) :
    S K Z H (σ.set i (some v)) (E.set i (some (d, n))) (put R i rs) where
  len := by simp [s.len]
  slot := fun j d' n' e => by
    by_cases q : j = i
    · subst q
      rw [eg_set_same hi] at e
      cases e
      exact ⟨v, List.getElem?_set_self (by rw [s.len]; exact hi), by rw [put_same]; exact h⟩
    · rw [eg_set_ne q] at e
      obtain ⟨v', e1, o1⟩ := s.slot j d' n' e
      exact ⟨v', by rw [List.getElem?_set_ne (Ne.symm q)]; exact e1, by rw [put_ne q]; exact o1⟩
  emp := fun j e => by
    by_cases q : j = i
    · subst q; rw [eg_set_same hi] at e; cases e
    · rw [eg_set_ne q] at e; rw [put_ne q]; exact s.emp j e
  nd := fun j => by
    by_cases q : j = i
    · subst q; rw [put_same]; exact nd
    · rw [put_ne q]; exact s.nd j
  dj := fun j k a h1 h2 => by
    by_cases q : j = i
    · subst q
      rw [put_same] at h1
      by_cases q2 : k = j
      · exact q2.symm
      · rw [put_ne q2] at h2; exact absurd ⟨k, h2⟩ (no a h1)
    · rw [put_ne q] at h1
      by_cases q2 : k = i
      · subst q2; rw [put_same] at h2; exact absurd ⟨j, h1⟩ (no a h2)
      · rw [put_ne q2] at h2; exact s.dj j k a h1 h2
  zd := s.zd
/-- a slot that is forgotten -/
theorem S.dropSlot (s : S K Z H σ E R) {i : Nat} : S K Z H σ (E.set i none) (put R i []) where
  len := by simp [s.len]
  slot := fun j d' n' e => by
    by_cases q : j = i
    · subst q
      by_cases hi : j < E.length
      · rw [eg_set_same hi] at e; cases e
      · unfold eg at e; rw [List.getElem?_eq_none (by simp; omega)] at e; cases e
    · rw [eg_set_ne q] at e
      obtain ⟨v', e1, o1⟩ := s.slot j d' n' e
      exact ⟨v', e1, by rw [put_ne q]; exact o1⟩
  emp := fun j e => by
    by_cases q : j = i
    · subst q; exact put_same
    · rw [eg_set_ne q] at e; rw [put_ne q]; exact s.emp j e
  nd := fun j => by
    by_cases q : j = i
    · subst q; rw [put_same]; exact List.nodup_nil
    · rw [put_ne q]; exact s.nd j
  dj := fun j k a h1 h2 => by
    by_cases q : j = i
    · subst q; rw [put_same] at h1; simp at h1
    · rw [put_ne q] at h1
      by_cases q2 : k = i
      · subst q2; rw [put_same] at h2; simp at h2
      · rw [put_ne q2] at h2; exact s.dj j k a h1 h2
  zd := s.zd
theorem ow_put {i : Nat} {rs : List Addr} {a : Addr} : ow (put R i rs) a → a ∈ rs ∨ ow R a := fun ⟨j, m⟩ => by
  by_cases q : j = i
  · subst q; rw [put_same] at m; exact .inl m
  · rw [put_ne q] at m; exact .inr ⟨j, m⟩
/-- a slot's thing is frozen -/
theorem S.freeze (s : S K Z H σ E R) {i : Nat} {d : D} {n : Nat} (e : eg E i = some (d, n)) :
    S K (fun a => Z a ∨ a ∈ R i) H σ (E.set i (some (d, 0))) (put R i []) ∧ Step Z H (ow R) (fun a => Z a ∨ a ∈ R i) H (ow (put R i [])) ∧
      ∀ v, σ[i]? = some (some v) → Rp K (fun a => Z a ∨ a ∈ R i) H v d := by
  obtain ⟨v, e1, o1⟩ := s.slot i d n e
  have hi := eg_lt e
  have p : Pers Z H (fun a => Z a ∨ a ∈ R i) H := ⟨fun _ h => .inl h, fun _ _ _ h => h, fun _ _ h _ => h⟩
  have fz : Rp K (fun a => Z a ∨ a ∈ R i) H v d := o1.freeze p fun a m => ⟨rfl, .inr m⟩
  refine ⟨⟨by simp [s.len], fun j d' n' e' => ?_, fun j e' => ?_, fun j => ?_, fun j k a h1 h2 => ?_, fun a z => ?_⟩, ⟨fun _ h => .inl h, fun a h => ?_, fun _ _ h _ => h, fun a h => ?_, fun _ h => h⟩, fun v' e' => ?_⟩
  · by_cases q : j = i
    · subst q
      rw [eg_set_same hi] at e'
      cases e'
      exact ⟨v, e1, by rw [put_same]; exact ⟨rfl, fz⟩⟩
    · rw [eg_set_ne q] at e'
      obtain ⟨v', e2, o2⟩ := s.slot j d' n' e'
      refine ⟨v', e2, ?_⟩
      rw [put_ne q]
      refine o2.keep p fun a m => ⟨rfl, fun z => ?_⟩
      rcases z with z | z
      · exact (o2.mut a m).2 z
      · exact q (s.dj j i a m z)
  · by_cases q : j = i
    · subst q; exact put_same
    · rw [eg_set_ne q] at e'; rw [put_ne q]; exact s.emp j e'
  · by_cases q : j = i
    · subst q; rw [put_same]; exact List.nodup_nil
    · rw [put_ne q]; exact s.nd j
  · by_cases q : j = i
    · subst q; rw [put_same] at h1; simp at h1
    · rw [put_ne q] at h1
      by_cases q2 : k = i
      · subst q2; rw [put_same] at h2; simp at h2
      · rw [put_ne q2] at h2; exact s.dj j k a h1 h2
  · rcases z with z | z
    · exact s.zd a z
    · exact s.there ⟨i, z⟩
  · rcases h with h | h
    · exact .inl h
    · exact .inr (.inr ⟨i, h⟩)
  · rcases ow_put h with h | h
    · simp at h
    · exact .inl h
  · rw [e1] at e'; cases e'; exact fz
/-- taking an end -/
theorem S.take (s : S K Z H σ E R) {v : V} {o : Op} {d : D} {n : Nat} {E' : Ev} {rs : List Addr} (h : OV K Z H σ v o rs) (no : ∀ a ∈ rs, ¬ ow R a) (e : tk E o = some (d, n, E')) :
    ∃ Z' R', S K Z' H σ E' R' ∧ Step Z H (ow R) Z' H (ow R') ∧ Own K Z' H n v d rs ∧ (∀ a ∈ rs, ¬ ow R' a) ∧ (∀ a, ow R' a → ow R a) := by
  cases o with
  | val d' n' =>
    cases e
    exact ⟨Z, R, s, .refl, h, no, fun _ h => h⟩
  | slot i =>
    obtain ⟨h1, h2⟩ := h
    subst h2
    unfold tk at e
    cases q : eg E i with
    | none => simp [q] at e
    | some dn =>
      obtain ⟨d', n'⟩ := dn
      simp only [q] at e
      obtain ⟨v', e1, o1⟩ := s.slot i d' n' q
      rw [h1] at e1
      cases e1
      by_cases hi : imm d' = true
      · rw [if_pos hi] at e
        cases e
        exact ⟨Z, R, s, .refl, .ofImm (o1.imm hi).2 hi, no, fun _ h => h⟩
      · rw [if_neg hi] at e
        cases e
        obtain ⟨s1, t1, f1⟩ := s.freeze q
        refine ⟨_, _, s1, t1, ⟨rfl, f1 v h1⟩, fun a m => by simp at m, fun a h => ?_⟩
        rcases ow_put h with h | h
        · simp at h
        · exact h
/-- handing an end on -/
theorem S.move (s : S K Z H σ E R) {v : V} {o : Op} {d : D} {n : Nat} {E' : Ev} {rs : List Addr} (h : OV K Z H σ v o rs) (nd : rs.Nodup) (no : ∀ a ∈ rs, ¬ ow R a) (e : mv E o = some (d, n, E')) :
    ∃ R' rs', S K Z H σ E' R' ∧ Step Z H (ow R) Z H (ow R') ∧ Own K Z H n v d rs' ∧ rs'.Nodup ∧ (∀ a ∈ rs', ¬ ow R' a) ∧ (∀ a ∈ rs', a ∈ rs ∨ ow R a) ∧ (∀ a, ow R' a → ow R a) := by
  cases o with
  | val d' n' =>
    cases e
    exact ⟨R, rs, s, .refl, h, nd, no, fun _ h => .inl h, fun _ h => h⟩
  | slot i =>
    obtain ⟨h1, h2⟩ := h
    subst h2
    unfold mv at e
    cases q : eg E i with
    | none => simp [q] at e
    | some dn =>
      obtain ⟨d', n'⟩ := dn
      simp only [q] at e
      obtain ⟨v', e1, o1⟩ := s.slot i d' n' q
      rw [h1] at e1
      cases e1
      by_cases hi : imm d' = true
      · rw [if_pos hi] at e
        cases e
        exact ⟨R, [], s, .refl, .ofImm (o1.imm hi).2 hi, List.nodup_nil, fun a m => by simp at m, fun a m => by simp at m, fun _ h => h⟩
      · rw [if_neg hi] at e
        cases e
        have sub : ∀ a, ow (put R i []) a → ow R a := fun a h => by
          rcases ow_put h with h | h
          · simp at h
          · exact h
        refine ⟨_, R i, s.dropSlot, ⟨fun _ h => h, fun _ h => .inl h, fun _ _ h _ => h, fun a h => .inl (sub a h), fun _ h => h⟩, o1, s.nd i, fun a m ⟨j, hj⟩ => ?_, fun a m => .inr ⟨i, m⟩, sub⟩
        by_cases q2 : j = i
        · subst q2; rw [put_same] at hj; simp at hj
        · rw [put_ne q2] at hj; exact q2 (s.dj j i a hj m)
end
end Zk
namespace Zk
open PySem PySem.Spec PyProof.Rows L2

section
variable {K : PySem.W.Frag} {Z Z' Z1 Z2 : Addr → Prop} {H H' H1 H2 : Hp} {O O' O1 O2 : Addr → Prop} {σ : L2.St} {E E' : Ev} {R R' : Rs}
/-- the heap grows by new objects -/
def More (H H' : Hp) : Prop := ∀ a o, H a = some o → H' a = some o
theorem More.refl (H : Hp) : More H H := fun _ _ h => h
theorem More.trans {H H1 H2 : Hp} (a : More H H1) (b : More H1 H2) : More H H2 := fun x o h => b x o (a x o h)
theorem More.upd {p : Addr} {o : HO} (h : H p = none) : More H (upd H p o) := fun a u e => by rw [upd_ne (ne_of_none e h)]; exact e
theorem More.pers (m : More H H') (zz : ∀ a, Z a → Z' a) : Pers Z H Z' H' := ⟨zz, fun a o _ e => m a o e, fun a o e _ => m a o e⟩
theorem More.step (m : More H H') (O : Addr → Prop) : Step Z H O Z H' O :=
  ⟨fun _ h => h, fun _ h => .inl h, fun a o e _ => m a o e, fun _ h => .inl h, fun a h e => by
    cases q : H a with
    | none => exact h q
    | some o => rw [m a o q] at e; cases e⟩
theorem S.more (s : S K Z H σ E R) (m : More H H') : S K Z H' σ E R where
  len := s.len
  slot := fun i d n e => by
    obtain ⟨v, h1, h2⟩ := s.slot i d n e
    refine ⟨v, h1, h2.keep (m.pers fun _ h => h) fun a ha => ⟨?_, (h2.mut a ha).2⟩⟩
    cases q : H a with
    | none =>
      have := (h2.mut a ha).1
      rw [q] at this; exact this.elim
    | some o => exact m a o q
  emp := s.emp
  nd := s.nd
  dj := s.dj
  zd := fun a z e => by
    cases q : H a with
    | none => exact s.zd a z q
    | some o => rw [m a o q] at e; cases e
/-- more is frozen: addresses that are no slot's -/
theorem S.chill (s : S K Z H σ E R) {rs : List Addr} (no : ∀ a ∈ rs, ¬ ow R a) (th : ∀ a ∈ rs, H a ≠ none) : S K (fun a => Z a ∨ a ∈ rs) H σ E R where
  len := s.len
  slot := fun i d n e => by
    obtain ⟨v, h1, h2⟩ := s.slot i d n e
    refine ⟨v, h1, h2.keep ⟨fun _ h => .inl h, fun _ _ _ h => h, fun _ _ h _ => h⟩ fun a ha => ⟨rfl, fun z => ?_⟩⟩
    rcases z with z | z
    · exact (h2.mut a ha).2 z
    · exact no a z ⟨i, ha⟩
  emp := s.emp
  nd := s.nd
  dj := s.dj
  zd := fun a z => z.elim (s.zd a) (th a)
theorem Own.there {n : Nat} {v : V} {d : D} {rs : List Addr} (h : Own K Z H n v d rs) : ∀ a ∈ rs, H a ≠ none := fun a m e => by
  have := (h.mut a m).1
  rw [e] at this; exact this
theorem OV.there {v : V} {o : Op} {rs : List Addr} (h : OV K Z H σ v o rs) : ∀ a ∈ rs, H a ≠ none := by
  cases o with
  | slot i => intro a m; rw [h.2] at m; simp at m
  | val d n => exact Own.there h

/-- v stands for d, and all within is frozen -/
def Kf (K : PySem.W.Frag) (Z : Addr → Prop) (H : Hp) (v : V) (d : D) : Prop :=
  match d with
  | .lst ds => ∃ a vs, v = .ref a ∧ H a = some (.lst vs) ∧ Rps K Z H vs ds
  | .dK kds => ∃ a kvs, v = .ref a ∧ Rd H a (.dK kvs) ∧ kvs.map (·.1) = kds.map (·.1) ∧ Rps K Z H (kvs.map (·.2)) (kds.map (·.2))
  | .dT kds => ∃ a kvs, v = .ref a ∧ H a = some (.dT kvs) ∧ kvs.map (·.1) = kds.map (·.1) ∧ Rps K Z H (kvs.map (·.2)) (kds.map (·.2))
  | .set xs => ∃ a T m, v = .ref a ∧ H a = some (.set T m) ∧ (∀ i, T i = decide (i ∈ xs)) ∧ m = xs.length ∧ xs.Nodup
  | d => Rp K Z H v d
theorem Rp.kf {v : V} {d : D} (h : Rp K Z H v d) : Kf K Z H v d := by
  cases h with
  | lst z e r => exact ⟨_, _, rfl, e, r⟩
  | dK z e e2 r => exact ⟨_, _, rfl, e, e2, r⟩
  | dT z e e2 r => exact ⟨_, _, rfl, e, e2, r⟩
  | set z e a b c => exact ⟨_, _, _, rfl, e, a, b, c⟩
  | non => exact .non
  | bl b => exact .bl b
  | int b => exact .int b
  | str b => exact .str b
  | ty b => exact .ty b
  | tup a b => exact .tup a b
  | con a b => exact .con a b
  | scr a => exact .scr a
/-- taking items: a slot's thing of two levels or more is left with one -/
def ak (E : Ev) : Op → Option (D × Ev)
  | .slot i => match eg E i with
    | none => none
    | some (d, n) => if imm d = true ∨ flat d = true ∨ n ≤ 1 then some (d, E) else some (d, E.set i (some (d, 0)))
  | .val d _ => some (d, E)
theorem All3.immRps {n : Nat} : ∀ {vs : List V} {ds : List D} {rss : List (List Addr)}, All3 (Own K Z H n) vs ds rss → imms ds = true → Rps K Z H vs ds ∧ rss.flatten = []
  | _, _, _, .nil, _ => ⟨.nil, rfl⟩
  | _, _, _, .cons h t, i => by
    simp only [imms_cons, Bool.and_eq_true] at i
    obtain ⟨r, e⟩ := All3.immRps t i.2
    obtain ⟨e2, r2⟩ := h.imm i.1
    exact ⟨.cons r2 r, by rw [List.flatten_cons, e, e2]; rfl⟩
theorem All3.zeroRps : ∀ {vs : List V} {ds : List D} {rss : List (List Addr)}, All3 (Own K Z H 0) vs ds rss → Rps K Z H vs ds ∧ rss.flatten = []
  | _, _, _, .nil => ⟨.nil, rfl⟩
  | _, _, _, .cons h t => by
    obtain ⟨r, e⟩ := All3.zeroRps t
    exact ⟨.cons h.2 r, by rw [List.flatten_cons, e, h.1]; rfl⟩
theorem All3.ofRps0 : ∀ {vs : List V} {ds : List D}, Rps K Z H vs ds → All3 (Own K Z H 0) vs ds (ds.map fun _ => [])
  | _, _, .nil => .nil
  | _, _, .cons h t => .cons ⟨rfl, h⟩ (All3.ofRps0 t)
theorem All3.ofRpsI {n : Nat} : ∀ {vs : List V} {ds : List D}, Rps K Z H vs ds → imms ds = true → All3 (Own K Z H n) vs ds (ds.map fun _ => [])
  | _, _, .nil, _ => .nil
  | _, _, .cons h t, i => by
    simp only [imms_cons, Bool.and_eq_true] at i
    exact .cons (.ofImm h i.1) (All3.ofRpsI t i.2)
theorem flat_nils (ds : List D) : (ds.map fun _ => ([] : List Addr)).flatten = [] := by
  induction ds with
  | nil => rfl
  | cons d ds ih => simpa using ih
theorem Own.kf1 : ∀ {n : Nat} {v : V} {d : D} {rs : List Addr}, n ≤ 1 → Own K Z H n v d rs → Kf K Z H v d
  | 0, _, _, _, _, h => h.2.kf
  | 1, v, d, rs, _, h => by
    cases d with
    | lst ds =>
      obtain ⟨a, vs, rss, e, ha, z, r, _⟩ := h
      exact ⟨a, vs, e, ha, r.zeroRps.1⟩
    | dK ds =>
      obtain ⟨a, vs, rss, e, ha, z, e2, r, _⟩ := h
      exact ⟨a, vs, e, .inl ha, e2, r.zeroRps.1⟩
    | dT ds =>
      obtain ⟨a, vs, rss, e, ha, z, e2, r, _⟩ := h
      exact ⟨a, vs, e, ha, e2, r.zeroRps.1⟩
    | set xs =>
      obtain ⟨a, T, m, e, ha, z, e2, e3, e4, _⟩ := h
      exact ⟨a, T, m, e, ha, e2, e3, e4⟩
    | _ => exact h.2
theorem Own.kfFlat : ∀ {n : Nat} {v : V} {d : D} {rs : List Addr}, flat d = true → Own K Z H n v d rs → Kf K Z H v d
  | 0, _, _, _, _, h => h.2.kf
  | n + 1, v, d, rs, f, h => by
    cases d with
    | lst ds =>
      obtain ⟨a, vs, rss, e, ha, z, r, _⟩ := h
      exact ⟨a, vs, e, ha, (r.immRps (by simpa [flat] using f)).1⟩
    | dK ds =>
      obtain ⟨a, vs, rss, e, ha, z, e2, r, _⟩ := h
      exact ⟨a, vs, e, .inl ha, e2, (r.immRps (by simpa [flat] using f)).1⟩
    | dT ds =>
      obtain ⟨a, vs, rss, e, ha, z, e2, r, _⟩ := h
      exact ⟨a, vs, e, ha, e2, (r.immRps (by simpa [flat] using f)).1⟩
    | set xs =>
      obtain ⟨a, T, m, e, ha, z, e2, e3, e4, _⟩ := h
      exact ⟨a, T, m, e, ha, e2, e3, e4⟩
    | _ => exact h.2
theorem Own.kfImm {n : Nat} {v : V} {d : D} {rs : List Addr} (i : Zk.imm d = true) (h : Own K Z H n v d rs) : Kf K Z H v d := (h.imm i).2.kf
/-- behind taking items all within is frozen -/
theorem S.kids (s : S K Z H σ E R) {v : V} {o : Op} {d : D} {rs : List Addr} (h : OV K Z H σ v o rs) (no : ∀ a ∈ rs, ¬ ow R a) (e : ak E o = some (d, E')) :
    ∃ R', S K (fun a => (Z a ∨ a ∈ rs) ∨ (ow R a ∧ ¬ ow R' a)) H σ E' R' ∧ Kf K (fun a => (Z a ∨ a ∈ rs) ∨ (ow R a ∧ ¬ ow R' a)) H v d ∧ (∀ a, ow R' a → ow R a) := by
  cases o with
  | val d' n =>
    cases e
    have s1 := s.chill no (OV.there h)
    have p : Pers Z H (fun a => Z a ∨ a ∈ rs) H := ⟨fun _ h => .inl h, fun _ _ _ h => h, fun _ _ h _ => h⟩
    have ez : (fun a => (Z a ∨ a ∈ rs) ∨ (ow R a ∧ ¬ ow R a)) = fun a => Z a ∨ a ∈ rs := by
      funext a; simp
    refine ⟨R, by rw [ez]; exact s1, by rw [ez]; exact (Own.freeze p (fun a m => ⟨rfl, .inr m⟩) h).kf, fun _ h => h⟩
  | slot i =>
    obtain ⟨h1, h2⟩ := h
    subst h2
    have ez : (fun a => (Z a ∨ a ∈ ([] : List Addr)) ∨ (ow R a ∧ ¬ ow R a)) = Z := by
      funext a; simp
    unfold ak at e
    cases q : eg E i with
    | none => simp [q] at e
    | some dn =>
      obtain ⟨d', n'⟩ := dn
      simp only [q] at e
      obtain ⟨v', e1, o1⟩ := s.slot i d' n' q
      rw [h1] at e1
      cases e1
      split at e
      · rename_i c
        cases e
        refine ⟨R, by rw [ez]; exact s, ?_, fun _ h => h⟩
        rw [ez]
        rcases c with c | c | c
        · exact o1.kfImm c
        · exact o1.kfFlat c
        · exact o1.kf1 c
      · cases e
        obtain ⟨s1, t1, f1⟩ := s.freeze q
        have ez2 : (fun a => (Z a ∨ a ∈ ([] : List Addr)) ∨ (ow R a ∧ ¬ ow (put R i []) a)) = fun a => Z a ∨ a ∈ R i := by
          funext a
          simp only [List.not_mem_nil, or_false, eq_iff_iff]
          constructor
          · rintro (z | ⟨⟨j, m⟩, z⟩)
            · exact .inl z
            · by_cases c : j = i
              · subst c; exact .inr m
              · exact absurd ⟨j, by rw [put_ne c]; exact m⟩ z
          · rintro (z | z)
            · exact .inl z
            · refine .inr ⟨⟨i, z⟩, fun ⟨j, m⟩ => ?_⟩
              by_cases c : j = i
              · subst c; rw [put_same] at m; simp at m
              · rw [put_ne c] at m; exact c (s.dj j i a m z)
        refine ⟨put R i [], by rw [ez2]; exact s1, by rw [ez2]; exact (f1 v h1).kf, fun a h => ?_⟩
        rcases ow_put h with h | h
        · simp at h
        · exact h

/-- the end of an expression's step -/
theorem Step.fin {Z0 Zf : Addr → Prop} {H0 : Hp} {O0 : Addr → Prop} (t : Step Z0 H0 O0 Z H O) (zz : ∀ a, Z a → Zf a) (zn : ∀ a, Zf a → Z a ∨ O a ∨ O0 a ∨ H0 a = none) (m : More H H')
    (on : ∀ a, O' a → O a ∨ O0 a ∨ H0 a = none) : Step Z0 H0 O0 Zf H' O' where
  zz := fun a h => zz a (t.zz a h)
  zn := fun a h => by
    rcases zn a h with h | h | h | h
    · exact t.zn a h
    · rcases t.on a h with h | h
      · exact .inr (.inr h)
      · exact .inr (.inl h)
    · exact .inr (.inr h)
    · exact .inr (.inl h)
  hh := fun a o e n => m a o (t.hh a o e n)
  on := fun a h => by
    rcases on a h with h | h | h
    · exact t.on a h
    · exact .inl h
    · exact .inr h
  dm := fun a h e => by
    cases q : H a with
    | none => exact t.dm a h q
    | some o => rw [m a o q] at e; cases e

def rdL (E : Ev) : List Op → Option (List D)
  | [] => some []
  | o :: os => (rd E o).bind fun d => (rdL E os).map fun ds => d :: ds
def akL (E : Ev) : List Op → Option (List D × Ev)
  | [] => some ([], E)
  | o :: os => (ak E o).bind fun p => (akL p.2 os).map fun q => (p.1 :: q.1, q.2)
inductive Kfs (K : PySem.W.Frag) (Z : Addr → Prop) (H : Hp) : List V → List D → Prop
  | nil : Kfs K Z H [] []
  | cons {v : V} {d : D} {vs : List V} {ds : List D} : Kf K Z H v d → Kfs K Z H vs ds → Kfs K Z H (v :: vs) (d :: ds)
theorem S.readL (s : S K Z H σ E R) : ∀ {vs : List V} {os : List Op} {rss : List (List Addr)} {ds : List D}, All3 (OV K Z H σ) vs os rss → rdL E os = some ds → Rps K (fun _ => True) H vs ds
  | _, _, _, _, .nil, e => by cases e; exact .nil
  | _, _, _, _, .cons (b := o) (bs := os) h t, e => by
    simp only [rdL] at e
    cases q : rd E o with
    | none => rw [q] at e; cases e
    | some d =>
      cases q2 : rdL E os with
      | none => rw [q, q2] at e; cases e
      | some ds =>
        rw [q, q2] at e
        cases e
        exact .cons (s.read h q) (s.readL t q2)
theorem Kf.mono {v : V} {d : D} (h : Kf K Z H v d) (zz : ∀ a, Z a → Z' a) : Kf K Z' H v d := by
  have p : Pers Z H Z' H := ⟨zz, fun _ _ _ h => h, fun _ _ h _ => h⟩
  cases d with
  | lst ds => obtain ⟨a, vs, e, ha, r⟩ := h; exact ⟨a, vs, e, ha, r.pers p⟩
  | dK ds => obtain ⟨a, vs, e, ha, e2, r⟩ := h; exact ⟨a, vs, e, ha, e2, r.pers p⟩
  | dT ds => obtain ⟨a, vs, e, ha, e2, r⟩ := h; exact ⟨a, vs, e, ha, e2, r.pers p⟩
  | set xs => exact h
  | non => exact Rp.pers p h
  | bl _ => exact Rp.pers p h
  | int _ => exact Rp.pers p h
  | str _ => exact Rp.pers p h
  | ty _ => exact Rp.pers p h
  | tup _ => exact Rp.pers p h
  | con _ => exact Rp.pers p h
  | scr _ => exact Rp.pers p h
theorem Kfs.mono {vs : List V} {ds : List D} (h : Kfs K Z H vs ds) (zz : ∀ a, Z a → Z' a) : Kfs K Z' H vs ds := by
  induction h with
  | nil => exact .nil
  | cons h _ ih => exact .cons (h.mono zz) ih
theorem S.kidsL : ∀ {vs : List V} {os : List Op} {rss : List (List Addr)} {ds : List D} {Z : Addr → Prop} {E E' : Ev} {R : Rs}, S K Z H σ E R → All3 (OV K Z H σ) vs os rss → (∀ a ∈ rss.flatten, ¬ ow R a) → rss.flatten.Nodup → akL E os = some (ds, E') →
    ∃ Zf R', S K Zf H σ E' R' ∧ Kfs K Zf H vs ds ∧ (∀ a, ow R' a → ow R a) ∧ (∀ a, Z a → Zf a) ∧ (∀ a, Zf a → Z a ∨ a ∈ rss.flatten ∨ ow R a)
  | _, _, _, _, Z, E, E', R, s, .nil, no, nd, e => by
    cases e
    exact ⟨Z, R, s, .nil, fun _ h => h, fun _ h => h, fun _ h => .inl h⟩
  | _, _, _, _, Z, E, E', R, s, .cons (a := v) (b := o) (bs := os) (c := rs) (cs := rss) h t, no, nd, e => by
    simp only [akL] at e
    rw [List.flatten_cons, List.nodup_append] at nd
    obtain ⟨n1, n2, n3⟩ := nd
    have no1 : ∀ a ∈ rs, ¬ ow R a := fun a m => no a (by rw [List.flatten_cons, List.mem_append]; exact .inl m)
    have no2 : ∀ a ∈ rss.flatten, ¬ ow R a := fun a m => no a (by rw [List.flatten_cons, List.mem_append]; exact .inr m)
    cases q : ak E o with
    | none => rw [q] at e; cases e
    | some p =>
      obtain ⟨d, E1⟩ := p
      rw [q] at e
      cases q2 : akL E1 os with
      | none => simp only [Option.bind_some, q2] at e; cases e
      | some p2 =>
        obtain ⟨ds, E2⟩ := p2
        simp only [Option.bind_some, q2, Option.map_some, Option.some.injEq, Prod.mk.injEq] at e
        obtain ⟨rfl, rfl⟩ := e
        obtain ⟨R1, s1, k1, sub1⟩ := s.kids h no1 q
        have t1 : All3 (OV K (fun a => (Z a ∨ a ∈ rs) ∨ (ow R a ∧ ¬ ow R1 a)) H σ) _ os rss := t.imp fun v' o' rs' m hh => by
          cases o' with
          | slot i => exact hh
          | val d' n' =>
            refine Own.keep ⟨fun _ h => .inl (.inl h), fun _ _ _ h => h, fun _ _ h _ => h⟩ (fun a ma => ⟨rfl, fun z => ?_⟩) hh
            rcases z with (z | z) | z
            · exact (Own.mut hh a ma).2 z
            · exact n3 a z a (mem_flatten_of m ma) rfl
            · exact no2 a (mem_flatten_of m ma) z.1
        obtain ⟨Zf, R2, s2, k2, sub2, zz2, zn2⟩ := S.kidsL s1 t1 (fun a m z => no2 a m (sub1 a z)) n2 q2
        refine ⟨Zf, R2, s2, .cons (k1.mono zz2) k2, fun a h => sub1 a (sub2 a h), fun a h => zz2 a (.inl (.inl h)), fun a h => ?_⟩
        rw [List.flatten_cons, List.mem_append]
        rcases zn2 a h with ((h | h) | h) | h | h
        · exact .inl h
        · exact .inr (.inl (.inl h))
        · exact .inr (.inr h.1)
        · exact .inr (.inl (.inr h))
        · exact .inr (.inr (sub1 a h))

/-- an operation that only reads, its end is unchangeable -/
def RO (K : PySem.W.Frag) (r : List V → Hp → VK → Prop) (g : List D → Option D) : Prop :=
  (∀ ds d, g ds = some d → imm d = true) ∧ ∀ (H : Hp) (vs : List V) (ds : List D) (d : D) (Q : VK), Rps K (fun _ => True) H vs ds → g ds = some d → (∀ v, Rp K (fun _ => True) H v d → Q v H) → r vs H Q
/-- an operation whose end may hold the items of what is given, and may be new -/
def AL (K : PySem.W.Frag) (r : List V → Hp → VK → Prop) (g : List D → Option (D × Nat)) : Prop :=
  ∀ (Z : Addr → Prop) (H : Hp) (vs : List V) (ds : List D) (d : D) (n : Nat) (Q : VK), (∀ a, Z a → H a ≠ none) → Kfs K Z H vs ds → g ds = some (d, n) →
    (∀ v H' rs, More H H' → Own K Z H' n v d rs → rs.Nodup → (∀ a ∈ rs, H a = none) → Q v H') → r vs H Q
def mRO (g : List D → Option D) (fa : Fa) : Fe := fun E => (fa E).bind fun p => (rdL p.2 p.1).bind fun ds => (g ds).map fun d => (.val d 9, p.2)
def mAL (g : List D → Option (D × Nat)) (fa : Fa) : Fe := fun E => (fa E).bind fun p => (akL p.2 p.1).bind fun q => (g q.1).map fun d => (.val d.1 d.2, q.2)
theorem ro_of {r : List V → Hp → VK → Prop} {g : List D → Option D} (h : RO K r g) {fa : Fa} {σ : L2.St} {H : Hp} {Q : VK} (q : eOf K (mRO g fa) σ H Q) : aOf K fa σ H fun vs H2 => r vs H2 Q := by
  obtain ⟨Z, E, R, s, o, E', e, q⟩ := q
  unfold mRO at e
  cases e1 : fa E with
  | none => rw [e1] at e; cases e
  | some p =>
    obtain ⟨os, E1⟩ := p
    rw [e1] at e
    simp only [Option.bind_some] at e
    cases e2 : rdL E1 os with
    | none => rw [e2] at e; cases e
    | some ds =>
      rw [e2] at e
      simp only [Option.bind_some] at e
      cases e3 : g ds with
      | none => rw [e3] at e; cases e
      | some d =>
        rw [e3] at e
        simp only [Option.map_some, Option.some.injEq, Prod.mk.injEq] at e
        obtain ⟨rfl, rfl⟩ := e
        refine ⟨Z, E, R, s, os, E1, e1, fun vs Z1 H1 R1 rss s1 t1 a1 f1 => ?_⟩
        refine h.2 H1 vs ds d Q (s1.readL a1 e2) e3 fun v rv => ?_
        exact q v Z1 H1 R1 [] s1 t1 (Own.ofImm (rv.immz (fun _ _ e _ => e) (h.1 ds d e3)) (h.1 ds d e3)) .nil
theorem al_of {r : List V → Hp → VK → Prop} {g : List D → Option (D × Nat)} (h : AL K r g) {fa : Fa} {σ : L2.St} {H : Hp} {Q : VK} (q : eOf K (mAL g fa) σ H Q) : aOf K fa σ H fun vs H2 => r vs H2 Q := by
  obtain ⟨Z, E, R, s, o, E', e, q⟩ := q
  unfold mAL at e
  cases e1 : fa E with
  | none => rw [e1] at e; cases e
  | some p =>
    obtain ⟨os, E1⟩ := p
    rw [e1] at e
    simp only [Option.bind_some] at e
    cases e2 : akL E1 os with
    | none => rw [e2] at e; cases e
    | some p2 =>
      obtain ⟨ds, E2⟩ := p2
      rw [e2] at e
      simp only [Option.bind_some] at e
      cases e3 : g ds with
      | none => rw [e3] at e; cases e
      | some d =>
        rw [e3] at e
        simp only [Option.map_some, Option.some.injEq, Prod.mk.injEq] at e
        obtain ⟨rfl, rfl⟩ := e
        refine ⟨Z, E, R, s, os, E1, e1, fun vs Z1 H1 R1 rss s1 t1 a1 f1 => ?_⟩
        obtain ⟨Zf, R2, s2, k2, sub2, zz2, zn2⟩ := s1.kidsL a1 f1.no f1.nd e2
        refine h Zf H1 vs ds d.1 d.2 Q s2.zd k2 e3 fun v H' rs m o nd nw => ?_
        have th : ∀ a, ow R2 a → H1 a ≠ none := fun a => s2.there
        refine q v Zf H' R2 rs (s2.more m) (t1.fin zz2 (fun a z => ?_) m fun a z => .inl (sub2 a z)) o ⟨nd, fun a ma z => th a z (nw a ma), fun a ma => ?_⟩
        · rcases zn2 a z with z | z | z
          · exact .inl z
          · rcases f1.of a z with z | z
            · exact .inr (.inr (.inl z))
            · exact .inr (.inr (.inr z))
          · exact .inr (.inl z)
        · by_cases c : H a = none
          · exact .inr c
          · exact absurd (nw a ma) (t1.dm a c)
/-- two arguments -/
def mA2 (a b : Fe) : Fa := fun E => (a E).bind fun p => (b p.2).bind fun q => some ([p.1, q.1], q.2)
def mA1 (a : Fe) : Fa := fun E => (a E).bind fun p => some ([p.1], p.2)
def mA0 : Fa := fun E => some ([], E)
def mAc (a : Fe) (b : Fa) : Fa := fun E => (a E).bind fun p => (b p.2).bind fun q => some (p.1 :: q.1, q.2)
theorem Fr.trans {R0 R1 R2 : Rs} {H0 H1 : Hp} {rs : List Addr} (a : Fr R1 H1 R2 rs) (on : ∀ x, ow R1 x → ow R0 x ∨ H0 x = none) (dm : ∀ x, H0 x ≠ none → H1 x ≠ none) : Fr R0 H0 R2 rs :=
  ⟨a.nd, a.no, fun x m => by
    rcases a.of x m with h | h
    · exact on x h
    · by_cases q : H0 x = none
      · exact .inr q
      · exact absurd h (dm x q)⟩
theorem aOf_c {fa : Fe} {fb : Fa} {σ : L2.St} {H : Hp} {Q : List V → Hp → Prop} (q : aOf K (mAc fa fb) σ H Q) : eOf K fa σ H fun x H1 => aOf K fb σ H1 fun xs H2 => Q (x :: xs) H2 := by
  obtain ⟨Z, E, R, s, os, E', e, q⟩ := q
  unfold mAc at e
  cases e1 : fa E with
  | none => rw [e1] at e; cases e
  | some p =>
    obtain ⟨o1, E1⟩ := p
    rw [e1] at e
    simp only [Option.bind_some] at e
    cases e2 : fb E1 with
    | none => rw [e2] at e; cases e
    | some p2 =>
      obtain ⟨os2, E2⟩ := p2
      rw [e2] at e
      simp only [Option.bind_some, Option.some.injEq, Prod.mk.injEq] at e
      obtain ⟨rfl, rfl⟩ := e
      refine ⟨Z, E, R, s, o1, E1, e1, fun v1 Z1 H1 R1 rs1 s1 t1 v1r f1 => ?_⟩
      refine ⟨Z1, E1, R1, s1, os2, E2, e2, fun vs2 Z2 H2 R2 rss2 s2 t2 v2r f2 => ?_⟩
      obtain ⟨p1, p2⟩ := s1.pendO t2 v1r f1.no
      refine q (v1 :: vs2) Z2 H2 R2 (rs1 :: rss2) s2 (t1.trans t2) (.cons p1 v2r) ⟨?_, fun a m => ?_, fun a m => ?_⟩
      · rw [List.flatten_cons, List.nodup_append]
        refine ⟨f1.nd, f2.nd, fun a m b m2 e => ?_⟩
        subst e
        rcases f2.of a m2 with z | z
        · exact f1.no a m z
        · exact OV.there v1r a m z
      · rw [List.flatten_cons, List.mem_append] at m
        rcases m with m | m
        · exact p2 a m
        · exact f2.no a m
      · rw [List.flatten_cons, List.mem_append] at m
        rcases m with m | m
        · exact f1.of a m
        · exact (f2.trans t1.on t1.dm).of a m
theorem aOf_0 {σ : L2.St} {H : Hp} {Q : List V → Hp → Prop} (q : aOf K mA0 σ H Q) : Q [] H := by
  obtain ⟨Z, E, R, s, os, E', e, q⟩ := q
  cases e
  exact q [] Z H R [] s .refl .nil .nil
theorem mA1_eq (a : Fe) : mA1 a = mAc a mA0 := by
  funext E; unfold mA1 mAc mA0
  cases a E <;> rfl
theorem mA2_eq (a b : Fe) : mA2 a b = mAc a (mA1 b) := by
  funext E; unfold mA2 mAc mA1
  cases a E with
  | none => rfl
  | some p => simp only [Option.bind_some]; cases b p.2 <;> rfl
theorem aOf_1 {fa : Fe} {σ : L2.St} {H : Hp} {Q : List V → Hp → Prop} (q : aOf K (mA1 fa) σ H Q) : eOf K fa σ H fun x H1 => Q [x] H1 := by
  rw [mA1_eq] at q
  obtain ⟨Z, E, R, s, o1, E1, e1, q⟩ := aOf_c q
  exact ⟨Z, E, R, s, o1, E1, e1, fun v Z' H' R' rs s' t' o' f' => aOf_0 (q v Z' H' R' rs s' t' o' f')⟩
theorem aOf_2 {fa fb : Fe} {σ : L2.St} {H : Hp} {Q : List V → Hp → Prop} (q : aOf K (mA2 fa fb) σ H Q) : eOf K fa σ H fun x H1 => eOf K fb σ H1 fun y H2 => Q [x, y] H2 := by
  rw [mA2_eq] at q
  obtain ⟨Z, E, R, s, o1, E1, e1, q⟩ := aOf_c q
  exact ⟨Z, E, R, s, o1, E1, e1, fun v Z' H' R' rs s' t' o' f' => aOf_1 (q v Z' H' R' rs s' t' o' f')⟩
end
end Zk
set_option maxHeartbeats 4000000
namespace L2
open PySem PySem.Spec PyProof.Rows
theorem tuple_mulW1 (l : Addr) (items : Array Value) (n : Nat) (dd : Option Addr) (sl : Array (Option Value)) (x : Int) (u : Tok) (c0 : (decide (x < -(2 ^ 63)) || decide (x ≥ 2 ^ 63)) = false) (c1 : (items.isEmpty || x == 1) = true) :
    Meets (Builtin.«tuple.__mul__» ⟨[.ref l, .int x u], []⟩) (fun _ R s => s.heap.get? l = some { cls := .type "tuple", dict := dd, data := .seq items n, slots := sl } ∧ R (.ok (.ret (Value.ref l))) s) :=
  .of_wp fun prog w A R s h => by
    obtain ⟨hp, g, d, tk, os⟩ := s
    obtain ⟨hl, h⟩ := h
    have f1 := AutoSeq1.idx_int
    wp_walk using wpAny_loadPart' hl
    repeat (first
      | (refine wpAny_ite_false (decide_eq_false (by rw [c0]; exact Bool.false_ne_true)) ?_; wp_walk using wpAny_loadPart' hl)
      | (refine wpAny_ite_true (decide_eq_true (by rw [c1])) ?_; wp_walk using wpAny_loadPart' hl))
    exact ⟨_, rfl, h⟩
theorem tuple_mulW0 (l : Addr) (items : Array Value) (n : Nat) (dd : Option Addr) (sl : Array (Option Value)) (x : Int) (u : Tok) (c0 : (decide (x < -(2 ^ 63)) || decide (x ≥ 2 ^ 63)) = false) (c1 : (items.isEmpty || x == 1) = false) (c2 : (decide (x ≤ 0) || items.isEmpty) = true) :
    Meets (Builtin.«tuple.__mul__» ⟨[.ref l, .int x u], []⟩) (fun _ R s => s.heap.get? l = some { cls := .type "tuple", dict := dd, data := .seq items n, slots := sl } ∧
      R (.ok (.ret (Value.ref s.heap.objs.size))) { s with heap := s.heap.push { cls := Value.type "tuple", data := Data.seq #[] }, toks := s.toks }) :=
  .of_wp fun prog w A R s h => by
    obtain ⟨hp, g, d, tk, os⟩ := s
    obtain ⟨hl, h⟩ := h
    have f1 := AutoSeq1.idx_int
    wp_walk using wpAny_loadPart' hl
    repeat (first
      | (refine wpAny_ite_false (decide_eq_false (by rw [c0]; exact Bool.false_ne_true)) ?_; wp_walk using wpAny_loadPart' hl)
      | (refine wpAny_ite_false (decide_eq_false (by rw [c1]; exact Bool.false_ne_true)) ?_; wp_walk using wpAny_loadPart' hl)
      | (refine wpAny_ite_true (decide_eq_true (by rw [c2])) ?_; wp_walk using wpAny_loadPart' hl))
    exact ⟨_, rfl, h⟩
/-- a tuple 0 times, once, often -/
def rRepA (K : PySem.W.Frag) : R2 := fun x y H Q => ∃ l k xs, x = .ref l ∧ y = .int k ∧ SqT K H l xs ∧ xs ≠ [] ∧ 0 ≤ k ∧ k ≤ 1000 ∧ xs.length ≤ 1000 ∧ (k = 1 → Q (.ref l) H) ∧ (k ≠ 1 → ∀ p, H p = none → Q (.ref p) (upd H p (.tup (List.replicate k.toNat xs).flatten)))
section
variable {X : Cx}
theorem op_repA : OpR X (binaryOp .Mult) (rRepA X.K) := by
  intro pins s σ H x y v u Q I rx ry h
  obtain ⟨l, k, xs, rfl, rfl, hT, hne, h1, h2, hz, q1, q⟩ := h
  by_cases k2 : 2 ≤ k
  · exact op_repT pins s σ H _ _ v u Q I rx ry ⟨l, k, xs, rfl, rfl, hT, hne, k2, h2, hz, q (by omega)⟩
  cases rx
  obtain ⟨t, rfl⟩ := ry
  obtain ⟨its, r, ⟨⟨cls, dd, data, sl⟩, ho, hc, n, hd⟩, hs⟩ := I.tuple hT
  simp only at hc hd
  subst hc hd
  have hle : its.length = xs.length := r.length.symm
  have hn : its ≠ [] := fun e => hne (by
    rw [e] at hle
    exact List.eq_nil_of_length_eq_zero hle.symm)
  have hi : its.toArray.isEmpty = false := by
    cases its with
    | nil => exact absurd rfl hn
    | cons a b => rfl
  have c0 : (decide (k < -(2 ^ 63)) || decide (k ≥ 2 ^ 63)) = false := by
    rw [decide_eq_false (by omega), decide_eq_false (by omega)] <;> rfl
  by_cases e1 : k = 1
  · subst e1
    have c1 : (its.toArray.isEmpty || (1 : Int) == 1) = true := by rw [hi]; rfl
    refine wpAny_binaryOp_repeat_ref (T := "tuple") (U := "int") (by decide) ⟨_, ho, rfl⟩ (fun s' => typeIs_int s' 1 t) noFill_tuple_mul F.fills_int_mul F.slot_int_rmul repeat_tuple F.slot_int_index.lookup
      (call_meets F.slot_int_rmul (typeIs_int s 1 t) F.entry_int_rmul (F.args_int_rmul_2 _ _) (int_rmul_tuple 1 t l its.toArray n dd sl)
        ⟨ho, rfl, ⟨_, ho, rfl⟩, call_meets F.slot_tuple_mul ⟨_, ho, rfl⟩ F.entry_tuple_mul (F.args_tuple_mul_2 _ _) (tuple_mulW1 l its.toArray n dd sl 1 t c0 c1) ⟨ho, ?_⟩⟩)
    exact ⟨.ref l, H, I, rfl, q1 rfl⟩
  · have e0 : k = 0 := by omega
    subst e0
    have c1 : (its.toArray.isEmpty || (0 : Int) == 1) = false := by rw [hi]; rfl
    have c2 : (decide ((0 : Int) ≤ 0) || its.toArray.isEmpty) = true := by rw [decide_eq_true (by omega)]; rfl
    refine wpAny_binaryOp_repeat_ref (T := "tuple") (U := "int") (by decide) ⟨_, ho, rfl⟩ (fun s' => typeIs_int s' 0 t) noFill_tuple_mul F.fills_int_mul F.slot_int_rmul repeat_tuple F.slot_int_index.lookup
      (call_meets F.slot_int_rmul (typeIs_int s 0 t) F.entry_int_rmul (F.args_int_rmul_2 _ _) (int_rmul_tuple 0 t l its.toArray n dd sl)
        ⟨ho, rfl, ⟨_, ho, rfl⟩, call_meets F.slot_tuple_mul ⟨_, ho, rfl⟩ F.entry_tuple_mul (F.args_tuple_mul_2 _ _) (tuple_mulW0 l its.toArray n dd sl 0 t c0 c1 c2) ⟨ho, ?_⟩⟩)
    refine ⟨.ref s.heap.objs.size, _, I.laid (t' := s.toks) (o := .tup (List.replicate (0 : Int).toNat xs).flatten) (fun b ob q => Heap.get?_push_of_some _ q) (Nat.le_refl _) ?_, rfl, q (by decide) _ (I.hok.fresh (Nat.le_refl _))⟩
    exact ⟨by simp, _, r.rep 0, IsTup.new _ _⟩
end
end L2
namespace Zk
open PySem PySem.Spec PyProof.Rows L2

/-- a bound that nothing here comes near to; never reckoned -/
@[irreducible] def bigE : Nat := 60000000
theorem bigE_eq : bigE = 60000000 := by unfold bigE; rfl
theorem big_ex (e : Nat) : ∃ n : Nat, n = 2 ^ e := ⟨_, rfl⟩
noncomputable def big : Nat := Classical.choose (big_ex bigE)
theorem big_def : big = 2 ^ bigE := Classical.choose_spec (big_ex bigE)
theorem big_of {n k : Nat} (h : n < 2 ^ k) (hk : k ≤ 60000000) : n < big := by
  rw [big_def]
  exact Nat.lt_of_lt_of_le h (Nat.pow_le_pow_right (by decide) (by rw [bigE_eq]; exact hk))
theorem big_mul {i j : Int} (h1 : i.natAbs < big) (h2 : j.natAbs < big) : CMulX i j := by
  rw [big_def] at h1 h2
  exact mulx_ok h1 h2 (by rw [bigE_eq]; decide)

section
variable {X : Cx}
def mVar (i : Nat) : Fe := fun E => if (eg E i).isSome = true then some (.slot i, E) else none
def mC (d : D) : Fe := fun E => some (.val d 9, E)
theorem ae_var (i : Nat) {x : Str} {pos : PySem.Pos} (hN : X.N[i]? = some x := by rfl) (hv : Vis X.env.scope x := by first | exact Or.inl rfl | exact Or.inr (Or.inl rfl) | exact Or.inr (Or.inr rfl)) (hd : (x == ("__debug__" : Str)) = false := by decide)
    (hcd : (x == ("__classdict__" : Str)) = false := by decide) : AE X (.Name x pos) (mVar i) := by
  refine PE.mono (pe_var hN hv hd hcd) fun σ H Q q => ?_
  obtain ⟨Z, E, R, s, o, E', e, q⟩ := q
  unfold mVar at e
  split at e
  · rename_i hs
    cases e
    cases q2 : eg E i with
    | none => rw [q2] at hs; simp at hs
    | some dn =>
      obtain ⟨v, e1, o1⟩ := s.slot i dn.1 dn.2 q2
      exact ⟨v, e1, q v Z H R [] s .refl ⟨e1, rfl⟩ .nil⟩
  · cases e
theorem mC_of {K : PySem.W.Frag} {d : D} {v : V} (h : ∀ Z H, Rp K Z H v d) (hi : imm d = true) {σ : L2.St} {H : Hp} {Q : VK} (q : eOf K (mC d) σ H Q) : tC v σ H Q := by
  obtain ⟨Z, E, R, s, o, E', e, q⟩ := q
  cases e
  exact q v Z H R [] s .refl (Own.ofImm (h Z H) hi) .nil
theorem ae_int {i : Int} {j pos} : AE X (.Constant (.int i) j pos) (mC (.int i)) := PE.mono pe_int fun _ _ _ q => mC_of (fun _ _ => .int i) (by simp) q
theorem ae_bl {b j pos} : AE X (.Constant (.bool b) j pos) (mC (.bl b)) := PE.mono pe_bl fun _ _ _ q => mC_of (fun _ _ => .bl b) (by simp) q
end

section
variable {K : PySem.W.Frag} {fa fb : Fe} {σ : L2.St} {H : Hp} {Q : VK}
def two (r : R2) : List V → Hp → VK → Prop := fun vs H Q => ∃ x y, vs = [x, y] ∧ r x y H Q
theorem tOp_al {r : R2} {g : List D → Option (D × Nat)} (h : AL K (two r) g) (q : eOf K (mAL g (mA2 fa fb)) σ H Q) : tOp r (eOf K fa) (eOf K fb) σ H Q := by
  have z := aOf_2 (al_of h q)
  obtain ⟨Z, E, R, s, o1, E1, e1, z⟩ := z
  refine ⟨Z, E, R, s, o1, E1, e1, fun v Z' H' R' rs s' t' o' f' => ?_⟩
  obtain ⟨Z2, E2, R2, s2, o2, E3, e2, z2⟩ := z v Z' H' R' rs s' t' o' f'
  refine ⟨Z2, E2, R2, s2, o2, E3, e2, fun v2 Z3 H3 R3 rs3 s3 t3 o3 f3 => ?_⟩
  obtain ⟨x, y, e, q⟩ := z2 v2 Z3 H3 R3 rs3 s3 t3 o3 f3
  cases e
  exact q
theorem tOp_ro {r : R2} {g : List D → Option D} (h : RO K (two r) g) (q : eOf K (mRO g (mA2 fa fb)) σ H Q) : tOp r (eOf K fa) (eOf K fb) σ H Q := by
  have z := aOf_2 (ro_of h q)
  obtain ⟨Z, E, R, s, o1, E1, e1, z⟩ := z
  refine ⟨Z, E, R, s, o1, E1, e1, fun v Z' H' R' rs s' t' o' f' => ?_⟩
  obtain ⟨Z2, E2, R2, s2, o2, E3, e2, z2⟩ := z v Z' H' R' rs s' t' o' f'
  refine ⟨Z2, E2, R2, s2, o2, E3, e2, fun v2 Z3 H3 R3 rs3 s3 t3 o3 f3 => ?_⟩
  obtain ⟨x, y, e, q⟩ := z2 v2 Z3 H3 R3 rs3 s3 t3 o3 f3
  cases e
  exact q
theorem Rps.two {Z : Addr → Prop} {vs : List V} {d e : D} (h : Rps K Z H vs [d, e]) : ∃ x y, vs = [x, y] ∧ Rp K Z H x d ∧ Rp K Z H y e := by
  cases h with
  | cons h t =>
    cases t with
    | cons h2 t2 => cases t2; exact ⟨_, _, rfl, h, h2⟩
theorem Rps.one {Z : Addr → Prop} {vs : List V} {d : D} (h : Rps K Z H vs [d]) : ∃ x, vs = [x] ∧ Rp K Z H x d := by
  cases h with
  | cons h t => cases t; exact ⟨_, rfl, h⟩
theorem Kfs.two {Z : Addr → Prop} {vs : List V} {d e : D} (h : Kfs K Z H vs [d, e]) : ∃ x y, vs = [x, y] ∧ Kf K Z H x d ∧ Kf K Z H y e := by
  cases h with
  | cons h t =>
    cases t with
    | cons h2 t2 => cases t2; exact ⟨_, _, rfl, h, h2⟩
theorem Kfs.one {Z : Addr → Prop} {vs : List V} {d : D} (h : Kfs K Z H vs [d]) : ∃ x, vs = [x] ∧ Kf K Z H x d := by
  cases h with
  | cons h t => cases t; exact ⟨_, rfl, h⟩
theorem Rp.intE {Z : Addr → Prop} {v : V} {i : Int} (h : Rp K Z H v (.int i)) : v = .int i := by cases h; rfl
theorem Rp.blE {Z : Addr → Prop} {v : V} {i : Bool} (h : Rp K Z H v (.bl i)) : v = .bl i := by cases h; rfl
theorem Rp.strE {Z : Addr → Prop} {v : V} {i : Str} (h : Rp K Z H v (.str i)) : v = .str i := by cases h; rfl
theorem Rp.nonE {Z : Addr → Prop} {v : V} (h : Rp K Z H v .non) : v = .non := by cases h; rfl
/-- two ints to an int -/
def gI2 (c : Int → Int → Prop) [∀ i j, Decidable (c i j)] (f : Int → Int → Int) : List D → Option D
  | [.int i, .int j] => if c i j then some (.int (f i j)) else none
  | _ => none
theorem ro_I2 {c C : Int → Int → Prop} [∀ i j, Decidable (c i j)] {f : Int → Int → Int} {g : Int → Int → V} (hc : ∀ i j, c i j → C i j) (hf : ∀ i j, c i j → g i j = .int (f i j)) : RO K (two (rI C g)) (gI2 c f) := by
  refine ⟨fun ds d e => ?_, fun H vs ds d Q r e q => ?_⟩
  · unfold gI2 at e
    split at e
    · split at e
      · cases e; simp
      · cases e
    · cases e
  · unfold gI2 at e
    split at e
    · split at e
      · rename_i i j h
        cases e
        obtain ⟨x, y, rfl, h1, h2⟩ := r.two
        exact ⟨x, y, rfl, i, j, h1.intE, h2.intE, hc i j h, by rw [hf i j h]; exact q _ (.int _)⟩
      · cases e
    · cases e
theorem ro_I20 {f : Int → Int → Int} : RO K (two (rI0 fun i j => .int (f i j))) (gI2 (fun _ _ => True) f) := by
  refine ⟨fun ds d e => ?_, fun H vs ds d Q r e q => ?_⟩
  · unfold gI2 at e
    split at e
    · rw [if_pos trivial] at e; cases e; simp
    · cases e
  · unfold gI2 at e
    split at e
    · rename_i i j
      rw [if_pos trivial] at e
      cases e
      obtain ⟨x, y, rfl, h1, h2⟩ := r.two
      exact ⟨x, y, rfl, i, j, h1.intE, h2.intE, q _ (.int _)⟩
    · cases e
def gB2 (f : Int → Int → Bool) : List D → Option D
  | [.int i, .int j] => some (.bl (f i j))
  | _ => none
theorem ro_B20 {f : Int → Int → Bool} : RO K (two (rI0 fun i j => .bl (f i j))) (gB2 f) := by
  refine ⟨fun ds d e => ?_, fun H vs ds d Q r e q => ?_⟩
  · unfold gB2 at e
    split at e
    · cases e; simp
    · cases e
  · unfold gB2 at e
    split at e
    · rename_i i j
      cases e
      obtain ⟨x, y, rfl, h1, h2⟩ := r.two
      exact ⟨x, y, rfl, i, j, h1.intE, h2.intE, q _ (.bl _)⟩
    · cases e
/-- how deep a new list of things is ours -/
def lev (ds : List D) : Nat := if imms ds = true then 9 else 1
theorem Own.newL {Z : Addr → Prop} {H : Hp} {p : Addr} {vs : List V} {ds : List D} (hz : ∀ a, Z a → H a ≠ none) (hp : H p = none) (r : Rps K Z H vs ds) : Own K Z (upd H p (.lst vs)) (lev ds) (.ref p) (.lst ds) [p] := by
  have r' : Rps K Z (upd H p (.lst vs)) vs ds := r.pers ((More.upd hp).pers fun _ h => h)
  have nz : ¬ Z p := fun z => hz p z hp
  unfold lev
  split
  · rename_i i
    exact ⟨p, vs, _, rfl, upd_same, nz, All3.ofRpsI r' i, by rw [flat_nils]⟩
  · exact ⟨p, vs, _, rfl, upd_same, nz, All3.ofRps0 r', by rw [flat_nils]⟩
theorem Own.newT {Z : Addr → Prop} {H : Hp} {p : Addr} {vs : List V} {ds : List D} (hp : H p = none) (r : Rps K Z H vs ds) : Own K Z (upd H p (.tup vs)) 0 (.ref p) (.tup ds) [] :=
  ⟨rfl, .tup upd_same (r.pers ((More.upd hp).pers fun _ h => h))⟩
/-- what follows a new list, a new tuple -/
theorem fin_lst {Z : Addr → Prop} {H : Hp} {vs : List V} {ds : List D} {Q : VK} (hz : ∀ a, Z a → H a ≠ none) (r : Rps K Z H vs ds)
    (q : ∀ v H' rs, More H H' → Own K Z H' (lev ds) v (.lst ds) rs → rs.Nodup → (∀ a ∈ rs, H a = none) → Q v H') : ∀ p, H p = none → Q (.ref p) (upd H p (.lst vs)) := fun p hp =>
  q _ _ [p] (.upd hp) (.newL hz hp r) (by simp) (fun a m => by
    have e : a = p := by simpa using m
    rw [e]
    exact hp)
theorem fin_tup {Z : Addr → Prop} {H : Hp} {vs : List V} {ds : List D} {Q : VK} (r : Rps K Z H vs ds)
    (q : ∀ v H' rs, More H H' → Own K Z H' 0 v (.tup ds) rs → rs.Nodup → (∀ a ∈ rs, H a = none) → Q v H') : ∀ p, H p = none → Q (.ref p) (upd H p (.tup vs)) := fun p hp =>
  q _ _ [] (.upd hp) (.newT hp r) List.nodup_nil fun a m => by simp at m
theorem fin_imm {Z : Addr → Prop} {H : Hp} {v : V} {d : D} {n : Nat} {Q : VK} (r : Rp K Z H v d) (i : imm d = true) (q : ∀ v H' rs, More H H' → Own K Z H' n v d rs → rs.Nodup → (∀ a ∈ rs, H a = none) → Q v H') : Q v H :=
  q _ _ [] (.refl _) (.ofImm r i) List.nodup_nil fun a m => by simp at m
/-- + -/
def gAdd : List D → Option (D × Nat)
  | [.int i, .int j] => some (.int (i + j), 9)
  | [.tup a, .tup b] => if a.length + b.length ≤ sizeLine then some (.tup (a ++ b), 0) else none
  | [.lst a, .lst b] => if a.length + b.length ≤ sizeLine then some (.lst (a ++ b), lev (a ++ b)) else none
  | [.str a, .str b] => if a.length + b.length ≤ sizeLine then some (.str (a ++ b), 9) else none
  | _ => none
def rAdds (K : PySem.W.Frag) : R2 := fun x y H Q => rI0 (fun i j => .int (i + j)) x y H Q ∨ rCatA K x y H Q ∨ rCat x y H Q ∨ (∃ i j, x = .str i ∧ y = .str j ∧ i.length + j.length ≤ sizeLine ∧ Q (.str (i ++ j)) H)
theorem al_add : AL K (two (rAdds K)) gAdd := by
  intro Z H vs ds d n Q hz r e q
  unfold gAdd at e
  split at e
  · cases e
    obtain ⟨x, y, rfl, h1, h2⟩ := r.two
    refine ⟨x, y, rfl, .inl ⟨_, _, Rp.intE h1, Rp.intE h2, ?_⟩⟩
    exact fin_imm (Z := Z) (.int _) (by simp) q
  · rename_i a b
    split at e
    · rename_i hl
      cases e
      obtain ⟨x, y, rfl, h1, h2⟩ := r.two
      cases h1 with
      | tup s1 r1 =>
        cases h2 with
        | tup s2 r2 =>
          rename_i p1 xs p2 ys
          refine ⟨_, _, rfl, .inr (.inl ⟨p1, p2, xs, ys, rfl, rfl, .of s1, .of s2, by rw [r1.len, r2.len]; exact hl, fun z => ?_, fun z1 z2 => ?_, fun z1 z2 => ?_⟩)⟩
          · subst z
            cases r1
            exact q _ _ [] (.refl _) ⟨rfl, .tup s2 (by simpa using r2)⟩ List.nodup_nil fun a m => by simp at m
          · subst z2
            cases r2
            exact q _ _ [] (.refl _) ⟨rfl, .tup s1 (by simpa using r1)⟩ List.nodup_nil fun a m => by simp at m
          · exact fin_tup (r1.append r2) q
    · cases e
  · rename_i a b
    split at e
    · rename_i hl
      cases e
      obtain ⟨x, y, rfl, ⟨p1, xs, rfl, s1, r1⟩, ⟨p2, ys, rfl, s2, r2⟩⟩ := r.two
      exact ⟨_, _, rfl, .inr (.inr (.inl ⟨p1, p2, xs, ys, rfl, rfl, s1, s2, by rw [r1.len, r2.len]; exact hl, fin_lst hz (r1.append r2) q⟩))⟩
    · cases e
  · split at e
    · rename_i hl
      cases e
      obtain ⟨x, y, rfl, h1, h2⟩ := r.two
      refine ⟨x, y, rfl, .inr (.inr (.inr ⟨_, _, Rp.strE h1, Rp.strE h2, hl, ?_⟩))⟩
      exact fin_imm (Z := Z) (.str _) (by simp) q
    · cases e
  · cases e
/-- * of ints; a list as often as told -/
noncomputable def gMul : List D → Option (D × Nat)
  | [.int i, .int j] => if i.natAbs < big ∧ j.natAbs < big then some (.int (i * j), 9) else none
  | [.lst a, .int k] => if -(2 ^ 63) ≤ k ∧ k < 2 ^ 63 ∧ a.length * k.toNat ≤ sizeLine then some (.lst (List.replicate k.toNat a).flatten, lev (List.replicate k.toNat a).flatten) else none
  | [.tup a, .int k] => if a.isEmpty = false ∧ 0 ≤ k ∧ k ≤ 1000 ∧ a.length ≤ 1000 then some (.tup (List.replicate k.toNat a).flatten, 0) else none
  | _ => none
theorem Rps.rep {Z : Addr → Prop} {vs : List V} {ds : List D} (h : Rps K Z H vs ds) : ∀ k : Nat, Rps K Z H (List.replicate k vs).flatten (List.replicate k ds).flatten
  | 0 => by simp; exact .nil
  | k + 1 => by rw [List.replicate_succ, List.replicate_succ, List.flatten_cons, List.flatten_cons]; exact h.append (Rps.rep h k)
theorem al_mul : AL K (two (fun x y H Q => rI CMulX (fun i j => .int (i * j)) x y H Q ∨ rRep x y H Q ∨ rRepA K x y H Q)) gMul := by
  intro Z H vs ds d n Q hz r e q
  unfold gMul at e
  split at e
  · split at e
    · rename_i h
      cases e
      obtain ⟨x, y, rfl, h1, h2⟩ := r.two
      refine ⟨x, y, rfl, .inl ⟨_, _, Rp.intE h1, Rp.intE h2, big_mul h.1 h.2, ?_⟩⟩
      exact fin_imm (Z := Z) (.int _) (by simp) q
    · cases e
  · split at e
    · rename_i h
      cases e
      obtain ⟨x, y, rfl, ⟨p1, xs, rfl, s1, r1⟩, h2⟩ := r.two
      cases Rp.intE h2
      exact ⟨_, _, rfl, .inr (.inl ⟨p1, _, xs, rfl, rfl, s1, h.1, h.2.1, by rw [r1.len]; exact h.2.2, fin_lst hz (r1.rep _) q⟩)⟩
    · cases e
  · split at e
    · rename_i h
      cases e
      obtain ⟨x, y, rfl, h1, h2⟩ := r.two
      cases Rp.intE h2
      cases h1 with
      | tup s r1 =>
        rename_i vs
        exact ⟨_, _, rfl, .inr (.inr ⟨_, _, vs, rfl, rfl, .of s, fun e => by rw [e] at r1; cases r1; exact absurd h.1 (by simp), h.2.1, h.2.2.1, by rw [r1.len]; exact h.2.2.2, fun k1 => by subst k1; exact q _ _ [] (.refl _) ⟨rfl, .tup s (by simpa using r1)⟩ List.nodup_nil fun a m => by simp at m, fun _ => fin_tup (r1.rep _) q⟩)⟩
    · cases e
  · cases e
end
section
variable {X : Cx} {a b : Expr} {fa fb : Fe} {pos : PySem.Pos}
def mAdd (a b : Fe) : Fe := mAL gAdd (mA2 a b)
noncomputable def mMul (a b : Fe) : Fe := mAL gMul (mA2 a b)
theorem ae_add (ha : AE X a fa) (hb : AE X b fb) : AE X (.BinOp a .Add b pos) (mAdd fa fb) :=
  PE.mono (pe_op (op_add.or (op_catA.or (op_cat.or op_add_str))) ha hb) fun _ _ _ q => tOp_al al_add q
theorem ae_mul (ha : AE X a fa) (hb : AE X b fb) : AE X (.BinOp a .Mult b pos) (mMul fa fb) :=
  PE.mono (pe_op (op_mulX.or (op_rep.or op_repA)) ha hb) fun _ _ _ q => tOp_al al_mul q
abbrev gSub := gI2 (fun _ _ => True) fun i j => i - j
def mSub (a b : Fe) : Fe := mRO gSub (mA2 a b)
theorem ae_sub (ha : AE X a fa) (hb : AE X b fb) : AE X (.BinOp a .Sub b pos) (mSub fa fb) := PE.mono (pe_op op_sub ha hb) fun _ _ _ q => tOp_ro ro_I20 q
/-- a divisor above 0 -/
def divOk (_ j : Int) : Prop := 0 < j ∧ j < 2 ^ 8000
instance (i j : Int) : Decidable (divOk i j) := inferInstanceAs (Decidable (_ ∧ _))
theorem divOk_w {i j : Int} (h : divOk i j) : CDivW i j := wide_div (b := 8000) h.1 (by have := h.1; have := h.2; omega) (by decide) (by decide)
abbrev gDiv := gI2 divOk fun i j => i / j
def mDiv (a b : Fe) : Fe := mRO gDiv (mA2 a b)
theorem ae_div (ha : AE X a fa) (hb : AE X b fb) : AE X (.BinOp a .FloorDiv b pos) (mDiv fa fb) := PE.mono (pe_op op_fdivW ha hb) fun _ _ _ q => tOp_ro (ro_I2 (fun _ _ h => divOk_w h) fun _ _ _ => rfl) q
abbrev gMod := gI2 (fun _ j => 0 < j) fun i j => i % j
def mMod (a b : Fe) : Fe := mRO gMod (mA2 a b)
theorem ae_mod (ha : AE X a fa) (hb : AE X b fb) : AE X (.BinOp a .Mod b pos) (mMod fa fb) := PE.mono (pe_op op_mod ha hb) fun _ _ _ q => tOp_ro (ro_I2 (fun _ _ h => h) fun _ _ _ => rfl) q
abbrev gPow := gI2 (fun i j => 0 ≤ j ∧ j ≤ 1000000 ∧ i.natAbs < 2 ^ 64) fun i j => i ^ j.toNat
def mPow (a b : Fe) : Fe := mRO gPow (mA2 a b)
instance (i j : Int) : Decidable (CPow i j) := inferInstanceAs (Decidable (_ ∧ _ ∧ _))
theorem ae_pow (ha : AE X a fa) (hb : AE X b fb) : AE X (.BinOp a .Pow b pos) (mPow fa fb) := PE.mono (pe_op op_pow ha hb) fun _ _ _ q => tOp_ro (ro_I2 (fun _ _ h => h) fun _ _ _ => rfl) q
noncomputable abbrev gShl := gI2 (fun i j => 0 ≤ j ∧ j ≤ 1000000 ∧ i.natAbs < big) fun i j => i * 2 ^ j.toNat
theorem shl_big {i j : Int} (h : 0 ≤ j ∧ j ≤ 1000000 ∧ i.natAbs < big) : CShl i j := by
  obtain ⟨h1, h2, h3⟩ := h
  rw [big_def] at h3
  have := shl_ok (i := i) (j := j.toNat) h3 (by rw [bigE_eq]; omega)
  rwa [Int.toNat_of_nonneg h1] at this
noncomputable def mShl (a b : Fe) : Fe := mRO gShl (mA2 a b)
theorem ae_shl (ha : AE X a fa) (hb : AE X b fb) : AE X (.BinOp a .LShift b pos) (mShl fa fb) := PE.mono (pe_op op_shlW ha hb) fun _ _ _ q => tOp_ro (ro_I2 (fun _ _ h => shl_big h) fun _ _ _ => rfl) q
def mLt (a b : Fe) : Fe := mRO (gB2 fun i j => decide (i < j)) (mA2 a b)
def mGt (a b : Fe) : Fe := mRO (gB2 fun i j => decide (j < i)) (mA2 a b)
def mGe (a b : Fe) : Fe := mRO (gB2 fun i j => decide (j ≤ i)) (mA2 a b)
theorem tUn_ro {K : PySem.W.Frag} {σ : L2.St} {H : Hp} {Q : VK} {r : V → Hp → VK → Prop} {g : List D → Option D} (h : RO K (fun vs H Q => ∃ x, vs = [x] ∧ r x H Q) g) (q : eOf K (mRO g (mA1 fa)) σ H Q) : tUn r (eOf K fa) σ H Q := by
  obtain ⟨Z, E, R, s, o1, E1, e1, z⟩ := aOf_1 (ro_of h q)
  refine ⟨Z, E, R, s, o1, E1, e1, fun v Z' H' R' rs s' t' o' f' => ?_⟩
  obtain ⟨x, e, q⟩ := z v Z' H' R' rs s' t' o' f'
  cases e
  exact q
end
end Zk
namespace Zk
open PySem PySem.Spec PyProof.Rows L2

/-- comparable data, at most n levels -/
def dat : Nat → D → Bool
  | _, .non => true
  | _, .bl _ => true
  | _, .int _ => true
  | _, .str x => PyData.strOk x
  | n + 1, .tup xs => xs.all (dat n)
  | n + 1, .con xs => xs.all (dat n)
  | n + 1, .lst xs => xs.all (dat n)
  | _, _ => false
mutual
def py : D → PyData
  | .non => .none
  | .bl b => .bool b
  | .int i => .int i
  | .str x => .str x
  | .ty _ => .none
  | .tup xs => .tuple (pys xs)
  | .con xs => .tuple (pys xs)
  | .lst xs => .list (pys xs)
  | .dK _ => .none
  | .dT _ => .none
  | .set _ => .none
  | .scr _ => .none
def pys : List D → List PyData
  | [] => []
  | d :: ds => py d :: pys ds
end
theorem pys_map : ∀ ds : List D, pys ds = ds.map py
  | [] => by simp [pys]
  | d :: ds => by simp [pys, pys_map ds]
theorem canAll : ∀ (n : Nat) (xs : List D), (∀ d, dat n d = true → (py d).canLay0 = true ∧ (py d).depth ≤ n) → xs.all (dat n) = true → PyData.canLayAll0 (pys xs) = true ∧ PyData.depthAll (pys xs) ≤ n
  | n, [], _, _ => by simp [pys, PyData.canLayAll0, PyData.depthAll]
  | n, d :: ds, h, a => by
    simp only [List.all_cons, Bool.and_eq_true] at a
    obtain ⟨h1, h2⟩ := h d a.1
    obtain ⟨h3, h4⟩ := canAll n ds h a.2
    simp only [pys, PyData.canLayAll0, PyData.depthAll, h1, h3, Bool.and_self, true_and]
    omega
theorem dat_lay : ∀ (n : Nat) (d : D), dat n d = true → (py d).canLay0 = true ∧ (py d).depth ≤ n
  | n, .non, _ => by simp [py, PyData.canLay0, PyData.depth]
  | n, .bl _, _ => by simp [py, PyData.canLay0, PyData.depth]
  | n, .int _, _ => by simp [py, PyData.canLay0, PyData.depth]
  | n, .str x, h => by
    have h : PyData.strOk x = true := by cases n <;> simpa [dat] using h
    simp [py, PyData.canLay0, PyData.depth, h]
  | n + 1, .tup xs, h => by
    simp only [dat] at h
    obtain ⟨h1, h2⟩ := canAll n xs (dat_lay n) h
    simp only [py, PyData.canLay0, PyData.depth, h1, true_and]
    omega
  | n + 1, .con xs, h => by
    simp only [dat] at h
    obtain ⟨h1, h2⟩ := canAll n xs (dat_lay n) h
    simp only [py, PyData.canLay0, PyData.depth, h1, true_and]
    omega
  | 0, .con _, h => by simp [dat] at h
  | n + 1, .lst xs, h => by
    simp only [dat] at h
    obtain ⟨h1, h2⟩ := canAll n xs (dat_lay n) h
    simp only [py, PyData.canLay0, PyData.depth, h1, true_and]
    omega
  | 0, .tup _, h => by simp [dat] at h
  | 0, .lst _, h => by simp [dat] at h
  | 0, .dK _, h => by simp [dat] at h
  | n, .ty _, h => by cases n <;> simp [dat] at h
  | 0, .dT _, h => by simp [dat] at h
  | 0, .set _, h => by simp [dat] at h
  | 0, .scr _, h => by simp [dat] at h
  | _ + 1, .dK _, h => by simp [dat] at h
  | _ + 1, .dT _, h => by simp [dat] at h
  | _ + 1, .set _, h => by simp [dat] at h
  | _ + 1, .scr _, h => by simp [dat] at h
theorem dat_shaped {d : D} (h : dat 64 d = true) : SeqAt.shaped (py d) = true := by
  obtain ⟨h1, h2⟩ := dat_lay 64 d h
  unfold SeqAt.shaped
  rw [h1, Bool.true_and]
  exact decide_eq_true h2
section
variable {K : PySem.W.Frag} {Z : Addr → Prop} {H : Hp}
theorem dat_all : ∀ {n : Nat} {vs : List V} {ds : List D}, (∀ (v : V) (d : D), dat n d = true → Rp K Z H v d → Dp K H v (py d)) → ds.all (dat n) = true → Rps K Z H vs ds → DpAll K H vs (pys ds)
  | _, _, _, _, _, .nil => .nil
  | n, _, _, f, a, .cons h t => by
    simp only [List.all_cons, Bool.and_eq_true] at a
    exact .cons (f _ _ a.1 h) (dat_all f a.2 t)
theorem dat_dp : ∀ (n : Nat) (v : V) (d : D), dat n d = true → Rp K Z H v d → Dp K H v (py d)
  | _, _, .non, _, .non => .non
  | _, _, .bl b, _, .bl _ => .bl b
  | _, _, .int i, _, .int _ => .int i
  | _, _, .str x, _, .str _ => .str x
  | n + 1, _, .tup xs, h, .tup s r => by
    simp only [dat] at h
    exact .tup (.of s) (dat_all (dat_dp n) h r)
  | n + 1, _, .con xs, h, .con s r => by
    simp only [dat] at h
    exact .tup s.sq (dat_all (dat_dp n) h r)
  | 0, _, .con _, h, _ => by simp [dat] at h
  | n + 1, _, .lst xs, h, .lst z e r => by
    simp only [dat] at h
    exact .lst (.inl (.inl e)) (dat_all (dat_dp n) h r)
  | 0, _, .tup _, h, _ => by simp [dat] at h
  | 0, _, .lst _, h, _ => by simp [dat] at h
  | n, _, .dK _, h, _ => by cases n <;> simp [dat] at h
  | n, _, .ty _, h, _ => by cases n <;> simp [dat] at h
  | n, _, .dT _, h, _ => by cases n <;> simp [dat] at h
  | n, _, .set _, h, _ => by cases n <;> simp [dat] at h
  | n, _, .scr _, h, _ => by cases n <;> simp [dat] at h
end
/-- == -/
def deq (a b : D) : Bool := PyData.eqv (py a) (py b)
def deqs (a b : List D) : Bool := PyData.eqvAll (pys a) (pys b)
@[simp] theorem deq_int (i j : Int) : deq (.int i) (.int j) = decide (i = j) := by simp [deq, py, PyData.eqv, Bool.beq_eq_decide_eq]
@[simp] theorem deq_bl (i j : Bool) : deq (.bl i) (.bl j) = decide (i = j) := by simp [deq, py, PyData.eqv, Bool.beq_eq_decide_eq]
@[simp] theorem deq_non : deq .non .non = true := by simp [deq, py, PyData.eqv]
@[simp] theorem deq_non_int (i : Int) : deq .non (.int i) = false := by simp [deq, py, PyData.eqv]
@[simp] theorem deq_int_non (i : Int) : deq (.int i) .non = false := by simp [deq, py, PyData.eqv]
@[simp] theorem deq_non_tup (i : List D) : deq .non (.tup i) = false := by simp [deq, py, PyData.eqv]
@[simp] theorem deq_tup_non (i : List D) : deq (.tup i) .non = false := by simp [deq, py, PyData.eqv]
@[simp] theorem deq_int_tup (j : Int) (i : List D) : deq (.int j) (.tup i) = false := by simp [deq, py, PyData.eqv]
@[simp] theorem deq_tup_int (j : Int) (i : List D) : deq (.tup i) (.int j) = false := by simp [deq, py, PyData.eqv]
@[simp] theorem deq_tup (a b : List D) : deq (.tup a) (.tup b) = deqs a b := by simp [deq, deqs, py, PyData.eqv]
@[simp] theorem deq_lst (a b : List D) : deq (.lst a) (.lst b) = deqs a b := by simp [deq, deqs, py, PyData.eqv]
@[simp] theorem deq_lst_tup (a b : List D) : deq (.lst a) (.tup b) = false := by simp [deq, py, PyData.eqv]
@[simp] theorem deq_tup_lst (a b : List D) : deq (.tup a) (.lst b) = false := by simp [deq, py, PyData.eqv]
@[simp] theorem deq_str (a b : Str) : deq (.str a) (.str b) = (a == b) := by simp [deq, py, PyData.eqv]
@[simp] theorem deqs_nil : deqs [] [] = true := by simp [deqs, pys, PyData.eqvAll]
@[simp] theorem deqs_nc (a : D) (as : List D) : deqs [] (a :: as) = false := by simp [deqs, pys, PyData.eqvAll]
@[simp] theorem deqs_cn (a : D) (as : List D) : deqs (a :: as) [] = false := by simp [deqs, pys, PyData.eqvAll]
@[simp] theorem deqs_cons (a b : D) (as bs : List D) : deqs (a :: as) (b :: bs) = (deq a b && deqs as bs) := by simp [deqs, deq, pys, PyData.eqvAll]

section
variable {X : Cx} {a b : Expr} {ta tb : TE} {fa fb : Fe} {pos : PySem.Pos}
theorem pc_op {op : CmpOp} {r : R2} (ho : OpR X (compareOp op) r) (ha : PE X a ta) (hb : PE X b tb) : PC X op a b (tOp r ta tb) :=
  ⟨fun pins s σ H Q I h => binT ha hb I h fun v u s2 x y H2 I2 rx ry q => ho pins s2 σ H2 x y v u Q I2 rx ry q⟩
abbrev AC (X : Cx) (op : CmpOp) (a b : Expr) (f : Fe) : Prop := PC X op a b (eOf X.K f)
theorem PC.mono {op : CmpOp} {t t' : TE} (h : PC X op a b t) (m : ∀ σ H Q, t' σ H Q → t σ H Q) : PC X op a b t' := ⟨fun pins s σ H Q I q => h.run pins s σ H Q I (m σ H Q q)⟩
/-- the truth of an end that is a bool -/
def mB (f : Fe) : Ft := fun E => (f E).bind fun p => (rd p.2 p.1).bind fun d => match d with
  | .bl b => some (b, p.2)
  | _ => none
theorem mB_of {K : PySem.W.Frag} {f : Fe} {σ : L2.St} {H : Hp} {Q : Bool → Hp → Prop} (q : cOf K (mB f) σ H Q) : eOf K f σ H fun x H1 => ∃ c, x = .bl c ∧ Q c H1 := by
  obtain ⟨Z, E, R, s, b, E', e, q⟩ := q
  unfold mB at e
  cases e1 : f E with
  | none => rw [e1] at e; cases e
  | some p =>
    obtain ⟨o, E1⟩ := p
    rw [e1] at e
    simp only [Option.bind_some] at e
    cases e2 : rd E1 o with
    | none => rw [e2] at e; cases e
    | some d =>
      rw [e2] at e
      simp only [Option.bind_some] at e
      split at e
      · cases e
        refine ⟨Z, E, R, s, o, _, e1, fun v Z' H' R' rs s' t' o' f' => ?_⟩
        exact ⟨_, (s'.read o' e2).blE, q Z' H' R' s' t'⟩
      · cases e
theorem ae_cmp {op : CmpOp} {f : Fe} (h : AC X op a b f) (h1 : behindInMarks op b = false := by first | exact nobehind _ (by decide) (by decide) | rfl) : AE X (.Compare a [op] [b] pos) f := pe_cmp h h1
theorem at_cmp {op : CmpOp} {f : Fe} (h : AC X op a b f) (h1 : behindInMarks op b = false := by first | exact nobehind _ (by decide) (by decide) | rfl) : AT X (.Compare a [op] [b] pos) (mB f) :=
  PT.mono (pt_cmp h h1) fun _ _ _ q => mB_of q
theorem ac_lt (ha : AE X a fa) (hb : AE X b fb) : AC X .Lt a b (mLt fa fb) := PC.mono (pc_op op_lt ha hb) fun _ _ _ q => tOp_ro ro_B20 q
theorem ac_gt (ha : AE X a fa) (hb : AE X b fb) : AC X .Gt a b (mGt fa fb) := PC.mono (pc_op op_gt ha hb) fun _ _ _ q => tOp_ro ro_B20 q
theorem ac_ge (ha : AE X a fa) (hb : AE X b fb) : AC X .GtE a b (mGe fa fb) := PC.mono (pc_op op_ge ha hb) fun _ _ _ q => tOp_ro ro_B20 q
def gEq : List D → Option D
  | [a, b] => if dat 64 a = true ∧ dat 64 b = true then some (.bl (deq a b)) else none
  | _ => none
def gNe : List D → Option D
  | [a, b] => if dat 64 a = true ∧ dat 64 b = true then some (.bl (!deq a b)) else none
  | _ => none
def mEq (a b : Fe) : Fe := mRO gEq (mA2 a b)
def mNe (a b : Fe) : Fe := mRO gNe (mA2 a b)
theorem ro_eq {K : PySem.W.Frag} : RO K (two (rEqD K)) gEq := by
  refine ⟨fun ds d e => ?_, fun H vs ds d Q r e q => ?_⟩
  · unfold gEq at e
    split at e
    · split at e
      · cases e; simp
      · cases e
    · cases e
  · unfold gEq at e
    split at e
    · split at e
      · rename_i h
        cases e
        obtain ⟨x, y, rfl, h1, h2⟩ := r.two
        exact ⟨x, y, rfl, _, _, dat_dp 64 x _ h.1 h1, dat_dp 64 y _ h.2 h2, dat_shaped h.1, dat_shaped h.2, q _ (.bl _)⟩
      · cases e
    · cases e
theorem ro_ne {K : PySem.W.Frag} : RO K (two (rNeD K)) gNe := by
  refine ⟨fun ds d e => ?_, fun H vs ds d Q r e q => ?_⟩
  · unfold gNe at e
    split at e
    · split at e
      · cases e; simp
      · cases e
    · cases e
  · unfold gNe at e
    split at e
    · split at e
      · rename_i h
        cases e
        obtain ⟨x, y, rfl, h1, h2⟩ := r.two
        exact ⟨x, y, rfl, _, _, dat_dp 64 x _ h.1 h1, dat_dp 64 y _ h.2 h2, dat_shaped h.1, dat_shaped h.2, q _ (.bl _)⟩
      · cases e
    · cases e
theorem ac_eq (hu : X.A.units + 64 < cLine) (ha : AE X a fa) (hb : AE X b fb) : AC X .Eq a b (mEq fa fb) := PC.mono (pc_op (op_eqD hu) ha hb) fun _ _ _ q => tOp_ro ro_eq q
theorem ac_ne (hu : X.A.units + 64 < cLine) (ha : AE X a fa) (hb : AE X b fb) : AC X .NotEq a b (mNe fa fb) := PC.mono (pc_op (op_neD hu) ha hb) fun _ _ _ q => tOp_ro ro_ne q

def isNon : D → Bool
  | .non => true
  | _ => false
@[simp] theorem isNon_non : isNon .non = true := rfl
@[simp] theorem isNon_int (i : Int) : isNon (.int i) = false := rfl
@[simp] theorem isNon_tup (i : List D) : isNon (.tup i) = false := rfl
@[simp] theorem isNon_lst (i : List D) : isNon (.lst i) = false := rfl
@[simp] theorem isNon_str (i : Str) : isNon (.str i) = false := rfl
@[simp] theorem isNon_bl (i : Bool) : isNon (.bl i) = false := rfl
@[simp] theorem isNon_dK (i : List (Key × D)) : isNon (.dK i) = false := rfl
@[simp] theorem isNon_dT (i : List (List Key × D)) : isNon (.dT i) = false := rfl
theorem Rp.isNon {K : PySem.W.Frag} {Z : Addr → Prop} {H : Hp} {v : V} {d : D} (h : Rp K Z H v d) : decide (v = .non) = Zk.isNon d := by
  cases h <;> simp [Zk.isNon]
def gIsN : List D → Option D
  | [a] => some (.bl (isNon a))
  | _ => none
def mIsN (a : Fe) : Fe := mRO gIsN (mA1 a)
theorem t1_ro {K : PySem.W.Frag} {σ : L2.St} {H : Hp} {Q : VK} {r : V → Hp → VK → Prop} {g : List D → Option D} (h : RO K (fun vs H Q => ∃ x, vs = [x] ∧ r x H Q) g) (q : eOf K (mRO g (mA1 fa)) σ H Q) : eOf K fa σ H fun x H1 => r x H1 Q := tUn_ro h q
theorem ac_isN {j pos'} (ha : AE X a fa) : AC X .Is a (.Constant .none j pos') (mIsN fa) := PC.mono (pc_isN ha) fun _ _ _ q =>
  t1_ro (r := fun x H1 Q => Q (.bl (decide (x = .non))) H1) (by
    refine ⟨fun ds d e => ?_, fun H vs ds d Q r e q => ?_⟩
    · unfold gIsN at e
      split at e
      · cases e; simp
      · cases e
    · unfold gIsN at e
      split at e
      · cases e
        obtain ⟨x, rfl, h⟩ := r.one
        exact ⟨x, rfl, by rw [h.isNon]; exact q _ (.bl _)⟩
      · cases e) q
def tru : D → Option Bool
  | .non => some false
  | .bl b => some b
  | .int i => some (i != 0)
  | .tup xs => some (!xs.isEmpty)
  | .con xs => some (!xs.isEmpty)
  | .lst xs => some (!xs.isEmpty)
  | .dK _ => none
  | .str x => if x.length ≤ sizeLine then some ((x.length : Int) != 0) else none
  | _ => none
def mTr (f : Fe) : Ft := fun E => (f E).bind fun p => (rd p.2 p.1).bind fun d => (tru d).map fun b => (b, p.2)
theorem Rps.isEmpty {K : PySem.W.Frag} {Z : Addr → Prop} {H : Hp} {vs : List V} {ds : List D} (r : Rps K Z H vs ds) : vs.isEmpty = ds.isEmpty := by cases r <;> rfl
theorem Rp.tru {K : PySem.W.Frag} {Z : Addr → Prop} {H : Hp} {v : V} {d : D} {b : Bool} (h : Rp K Z H v d) (e : Zk.tru d = some b) : TruV K v H b := by
  cases h with
  | non => cases e; exact rfl
  | bl c => cases e; exact rfl
  | int i => cases e; exact rfl
  | str x =>
    simp only [Zk.tru] at e
    split at e
    · rename_i hl
      cases e
      exact ⟨hl, rfl⟩
    · cases e
  | tup s r => cases e; exact .inr (.inl ⟨_, .of s, by rw [r.isEmpty]⟩)
  | con s r => cases e; exact .inr (.inl ⟨_, s.sq, by rw [r.isEmpty]⟩)
  | lst z s r => cases e; exact .inl ⟨_, .inl (.inl s), by rw [r.isEmpty]⟩
  | dK z s e2 r => simp [Zk.tru] at e
  | dT z s e2 r => simp [Zk.tru] at e
  | ty _ => simp [Zk.tru] at e
  | set _ _ _ _ _ => simp [Zk.tru] at e
  | scr _ => simp [Zk.tru] at e
theorem mTr_of {K : PySem.W.Frag} {f : Fe} {σ : L2.St} {H : Hp} {Q : Bool → Hp → Prop} (q : cOf K (mTr f) σ H Q) : eOf K f σ H fun x H1 => ∃ k, TruV K x H1 k ∧ Q k H1 := by
  obtain ⟨Z, E, R, s, b, E', e, q⟩ := q
  unfold mTr at e
  cases e1 : f E with
  | none => rw [e1] at e; cases e
  | some p =>
    obtain ⟨o, E1⟩ := p
    rw [e1] at e
    simp only [Option.bind_some] at e
    cases e2 : rd E1 o with
    | none => rw [e2] at e; cases e
    | some d =>
      rw [e2] at e
      simp only [Option.bind_some] at e
      cases e3 : tru d with
      | none => rw [e3] at e; cases e
      | some k =>
        rw [e3] at e
        cases e
        refine ⟨Z, E, R, s, o, _, e1, fun v Z' H' R' rs s' t' o' f' => ?_⟩
        exact ⟨_, (s'.read o' e2).tru e3, q Z' H' R' s' t'⟩
/-- any other expression as a test -/
theorem at_tru (ha : AE X a fa) (he : ∀ whole, isTrue a X.env whole = (do let v ← whole; standAt a.pos; holding [v] (truthy v)) := by intro _; rfl) : AT X a (mTr fa) := PT.mono (pt_truth ha he) fun _ _ _ q => mTr_of q

variable {ca cb : Ft} {rest : List Expr}
def mAndT (a b : Ft) : Ft := fun E => (a E).bind fun p => if p.1 = true then b p.2 else some (false, p.2)
def mOrT (a b : Ft) : Ft := fun E => (a E).bind fun p => if p.1 = true then some (true, p.2) else b p.2
def mNotT (a : Ft) : Ft := fun E => (a E).map fun p => (!p.1, p.2)
abbrev AW (X : Cx) (e : Expr) (f : Ft) : Prop := PW X e (cOf X.K f)
theorem cOf_seq {K : PySem.W.Frag} {a b : Ft} {f : Ft} {σ : L2.St} {H : Hp} {Q : Bool → Hp → Prop} (w : Bool) (hf : ∀ E, f E = (a E).bind fun p => if p.1 = w then b p.2 else some (!w, p.2)) (q : cOf K f σ H Q) :
    cOf K a σ H fun c H1 => if c = w then cOf K b σ H1 Q else Q (!w) H1 := by
  obtain ⟨Z, E, R, s, c, E', e, q⟩ := q
  rw [hf] at e
  cases e1 : a E with
  | none => rw [e1] at e; cases e
  | some p =>
    obtain ⟨c1, E1⟩ := p
    rw [e1] at e
    simp only [Option.bind_some] at e
    refine ⟨Z, E, R, s, c1, E1, e1, fun Z' H' R' s' t' => ?_⟩
    by_cases k : c1 = w
    · rw [if_pos k] at e ⊢
      exact ⟨Z', E1, R', s', c, E', e, fun Z2 H2 R2 s2 t2 => q Z2 H2 R2 s2 (t'.trans t2)⟩
    · rw [if_neg k] at e ⊢
      cases e
      exact q Z' H' R' s' t'
theorem aw_and1 (ha : AT X a ca) : AW X (.BoolOp .And [a] pos) ca := pw_and1 ha
theorem aw_or1 (ha : AT X a ca) : AW X (.BoolOp .Or [a] pos) ca := pw_or1 ha
theorem aw_and (ha : AT X a ca) (hb : AW X (.BoolOp .And (b :: rest) pos) cb) : AW X (.BoolOp .And (a :: b :: rest) pos) (mAndT ca cb) := PW.mono (pw_and ha hb) fun σ H Q q => by
  obtain ⟨Z, E, R, s, c, E', e, q⟩ := cOf_seq true (fun E => rfl) q
  refine ⟨Z, E, R, s, c, E', e, fun Z' H' R' s' t' => ?_⟩
  have := q Z' H' R' s' t'
  cases c <;> simpa using this
theorem aw_or (ha : AT X a ca) (hb : AW X (.BoolOp .Or (b :: rest) pos) cb) : AW X (.BoolOp .Or (a :: b :: rest) pos) (mOrT ca cb) := PW.mono (pw_or ha hb) fun σ H Q q => by
  obtain ⟨Z, E, R, s, c, E', e, q⟩ := cOf_seq (a := ca) (b := cb) false (fun E => by unfold mOrT; cases ca E with | none => rfl | some p => obtain ⟨c, E1⟩ := p; cases c <;> rfl) q
  refine ⟨Z, E, R, s, c, E', e, fun Z' H' R' s' t' => ?_⟩
  have := q Z' H' R' s' t'
  cases c <;> simpa using this
theorem at_w (h : AW X a ca) : AT X a ca := h.pt
theorem at_not (ha : AT X a ca) : AT X (.UnaryOp .Not a pos) (mNotT ca) := PT.mono (pt_not ha) fun σ H Q q => by
  obtain ⟨Z, E, R, s, c, E', e, q⟩ := q
  unfold mNotT at e
  cases e1 : ca E with
  | none => rw [e1] at e; cases e
  | some p =>
    rw [e1] at e
    cases e
    exact ⟨Z, E, R, s, p.1, p.2, e1, fun Z' H' R' s' t' => q Z' H' R' s' t'⟩
/-- .. as values, by truth -/
def mAndV (a b : Fe) : Fe := fun E => (a E).bind fun p => (rd p.2 p.1).bind fun d => (tru d).bind fun k => if k = true then b p.2 else some (p.1, p.2)
theorem eOf_tru {K : PySem.W.Frag} {f : Fe} {b : Fe} {g : Fe} {w : Bool} {σ : L2.St} {H : Hp} {Q : VK}
    (hf : ∀ E, f E = (g E).bind fun p => (rd p.2 p.1).bind fun d => (tru d).bind fun k => if k = w then b p.2 else some (p.1, p.2)) (q : eOf K f σ H Q) :
    eOf K g σ H fun x H1 => ∃ k, TruV K x H1 k ∧ if k = w then eOf K b σ H1 Q else Q x H1 := by
  obtain ⟨Z, E, R, s, o, E', e, q⟩ := q
  rw [hf] at e
  cases e1 : g E with
  | none => rw [e1] at e; cases e
  | some p =>
    obtain ⟨o1, E1⟩ := p
    rw [e1] at e
    simp only [Option.bind_some] at e
    cases e2 : rd E1 o1 with
    | none => rw [e2] at e; cases e
    | some d =>
      rw [e2] at e
      simp only [Option.bind_some] at e
      cases e3 : tru d with
      | none => rw [e3] at e; cases e
      | some k =>
        rw [e3] at e
        simp only [Option.bind_some] at e
        refine ⟨Z, E, R, s, o1, E1, e1, fun v Z' H' R' rs s' t' o' f' => ⟨k, (s'.read o' e2).tru e3, ?_⟩⟩
        by_cases c : k = w
        · rw [if_pos c] at e ⊢
          exact ⟨Z', E1, R', s', o, E', e, fun v2 Z2 H2 R2 rs2 s2 t2 o2 f2 => q v2 Z2 H2 R2 rs2 s2 (t'.trans t2) o2 (f2.trans t'.on t'.dm)⟩
        · rw [if_neg c] at e ⊢
          cases e
          exact q v Z' H' R' rs s' t' o' f'
theorem ae_one {op} (h : AE X a fa) : AE X (.BoolOp op [a] pos) fa := pe_one h
theorem ae_andV (ha : AE X a fa) (hb : AE X (.BoolOp .And (b :: rest) pos) fb) : AE X (.BoolOp .And (a :: b :: rest) pos) (mAndV fa fb) := PE.mono (pe_andT ha hb) fun σ H Q q => eOf_tru (w := true) (fun E => rfl) q
end
end Zk
namespace Zk
open PySem PySem.Spec PyProof.Rows L2

section
variable {K : PySem.W.Frag} {Z Z' : Addr → Prop} {H H' : Hp} {σ : L2.St} {E E' : Ev} {R R' : Rs}
/-- an unchangeable end leaves all as it is; another one may hold the items of what is given -/
def mOp (g : List D → Option (D × Nat)) (fa : Fa) : Fe := fun E => (fa E).bind fun p => (rdL p.2 p.1).bind fun ds => (g ds).bind fun d =>
  if imm d.1 = true then some (.val d.1 9, p.2) else (akL p.2 p.1).map fun q => (.val d.1 d.2, q.2)
theorem Rps.kfs : ∀ {vs : List V} {ds : List D}, Rps K Z H vs ds → Kfs K Z H vs ds
  | _, _, .nil => .nil
  | _, _, .cons h t => .cons h.kf (Rps.kfs t)
mutual
/-- what is readable is there -/
theorem Rp.dom : ∀ {v : V} {d : D}, Rp K (fun _ => True) H v d → Rp K (fun a => H a ≠ none) H v d
  | _, _, .non => .non
  | _, _, .bl b => .bl b
  | _, _, .int i => .int i
  | _, _, .str x => .str x
  | _, _, .ty x => .ty x
  | _, _, .tup h r => .tup h (Rps.dom r)
  | _, _, .con h r => .con h (Rps.dom r)
  | _, _, .lst _ h r => .lst (by rw [h]; simp) h (Rps.dom r)
  | _, _, .dK _ h e r => .dK (by rcases h with h | ⟨o, h⟩ <;> rw [h] <;> simp) h e (Rps.dom r)
  | _, _, .dT _ h e r => .dT (by rw [h]; simp) h e (Rps.dom r)
  | _, _, .set _ h e n d => .set (by rw [h]; simp) h e n d
  | _, _, .scr h => .scr h
theorem Rps.dom : ∀ {vs : List V} {ds : List D}, Rps K (fun _ => True) H vs ds → Rps K (fun a => H a ≠ none) H vs ds
  | _, _, .nil => .nil
  | _, _, .cons h t => .cons (Rp.dom h) (Rps.dom t)
end
theorem ak_rd {E E' : Ev} {o : Op} {d : D} (h : ak E o = some (d, E')) : rd E o = some d := by
  cases o with
  | val d' n => cases h; rfl
  | slot i =>
    unfold ak at h
    cases q : eg E i with
    | none => simp [q] at h
    | some dn =>
      simp only [q] at h
      split at h <;> (cases h; simp [Zk.rd, q])
theorem ak_len {E E' : Ev} {o : Op} {d : D} (h : ak E o = some (d, E')) (j : Nat) (d' : D) (n' : Nat) (e : eg E j = some (d', n')) : ∃ m, eg E' j = some (d', m) := by
  cases o with
  | val d' n => cases h; exact ⟨_, e⟩
  | slot i =>
    unfold ak at h
    cases q : eg E i with
    | none => simp [q] at h
    | some dn =>
      simp only [q] at h
      split at h
      · cases h; exact ⟨_, e⟩
      · cases h
        by_cases c : j = i
        · subst c
          rw [q] at e
          cases e
          exact ⟨0, eg_set_same (eg_lt q)⟩
        · exact ⟨n', by rw [eg_set_ne c]; exact e⟩
theorem rd_ak {E E' : Ev} {o o' : Op} {d d' : D} (h : ak E o = some (d, E')) (e : rd E o' = some d') : rd E' o' = some d' := by
  cases o' with
  | val x n => exact e
  | slot j =>
    simp only [Zk.rd] at e ⊢
    cases q : eg E j with
    | none => simp [q] at e
    | some dn =>
      obtain ⟨m, hm⟩ := ak_len h j dn.1 dn.2 q
      rw [q] at e
      cases e
      rw [hm]; rfl
theorem akL_rd : ∀ {os : List Op} {E E' : Ev} {ds es : List D}, akL E os = some (ds, E') → rdL E os = some es → ds = es
  | [], _, _, _, _, h, e => by cases h; cases e; rfl
  | o :: os, E, E', ds, es, h, e => by
    simp only [akL] at h
    simp only [rdL] at e
    cases q : ak E o with
    | none => rw [q] at h; cases h
    | some p =>
      rw [q] at h
      simp only [Option.bind_some] at h
      cases q2 : akL p.2 os with
      | none => rw [q2] at h; cases h
      | some p2 =>
        rw [q2] at h
        cases h
        rw [ak_rd (E' := p.2) (d := p.1) q] at e
        simp only [Option.bind_some] at e
        cases q3 : rdL E os with
        | none => rw [q3] at e; cases e
        | some fs =>
          rw [q3] at e
          cases e
          have mono : ∀ {os : List Op} {es : List D}, rdL E os = some es → rdL p.2 os = some es := by
            intro os
            induction os with
            | nil => intro es h; exact h
            | cons o' os ih =>
              intro es h
              simp only [rdL] at h ⊢
              cases r1 : rd E o' with
              | none => rw [r1] at h; cases h
              | some d1 =>
                rw [r1] at h
                simp only [Option.bind_some] at h
                cases r2 : rdL E os with
                | none => rw [r2] at h; cases h
                | some ds1 =>
                  rw [r2] at h
                  rw [rd_ak (E' := p.2) (d := p.1) q r1, ih r2]
                  exact h
          rw [akL_rd q2 (mono q3)]
theorem op_of {r : List V → Hp → VK → Prop} {g : List D → Option (D × Nat)} (h : AL K r g) {fa : Fa} {σ : L2.St} {H : Hp} {Q : VK} (q : eOf K (mOp g fa) σ H Q) : aOf K fa σ H fun vs H2 => r vs H2 Q := by
  obtain ⟨Z, E, R, s, o, E', e, q⟩ := q
  unfold mOp at e
  cases e1 : fa E with
  | none => rw [e1] at e; cases e
  | some p =>
    obtain ⟨os, E1⟩ := p
    rw [e1] at e
    simp only [Option.bind_some] at e
    cases e2 : rdL E1 os with
    | none => rw [e2] at e; cases e
    | some ds =>
      rw [e2] at e
      simp only [Option.bind_some] at e
      cases e3 : g ds with
      | none => rw [e3] at e; cases e
      | some d =>
        rw [e3] at e
        simp only [Option.bind_some] at e
        by_cases hi : imm d.1 = true
        · rw [if_pos hi] at e
          cases e
          refine ⟨Z, E, R, s, os, _, e1, fun vs Z1 H1 R1 rss s1 t1 a1 f1 => ?_⟩
          refine h (fun a => H1 a ≠ none) H1 vs ds d.1 d.2 Q (fun _ z => z) (s1.readL a1 e2).dom.kfs e3 fun v H' rs m o nd nw => ?_
          obtain ⟨rfl, rp⟩ := o.imm hi
          exact q v Z1 H' R1 [] (s1.more m) (t1.trans (m.step _)) (Own.ofImm (rp.immz (fun _ _ e _ => e) hi) hi) .nil
        · rw [if_neg hi] at e
          cases e4 : akL E1 os with
          | none => rw [e4] at e; cases e
          | some p2 =>
            obtain ⟨ds', E2⟩ := p2
            rw [e4] at e
            cases e
            cases akL_rd e4 e2
            refine al_of h (fa := fa) ⟨Z, E, R, s, .val d.1 d.2, E2, ?_, q⟩
            unfold mAL
            rw [e1]
            simp only [Option.bind_some, e4, e3, Option.map_some]
theorem tOp_op {fa fb : Fe} {r : R2} {g : List D → Option (D × Nat)} {Q : VK} (h : AL K (two r) g) (q : eOf K (mOp g (mA2 fa fb)) σ H Q) : tOp r (eOf K fa) (eOf K fb) σ H Q := by
  have z := aOf_2 (op_of h q)
  obtain ⟨Z, E, R, s, o1, E1, e1, z⟩ := z
  refine ⟨Z, E, R, s, o1, E1, e1, fun v Z' H' R' rs s' t' o' f' => ?_⟩
  obtain ⟨Z2, E2, R2, s2, o2, E3, e2, z2⟩ := z v Z' H' R' rs s' t' o' f'
  refine ⟨Z2, E2, R2, s2, o2, E3, e2, fun v2 Z3 H3 R3 rs3 s3 t3 o3 f3 => ?_⟩
  obtain ⟨x, y, e, q⟩ := z2 v2 Z3 H3 R3 rs3 s3 t3 o3 f3
  cases e
  exact q

theorem Rps.atI {Z : Addr → Prop} {vs : List V} {ds : List D} (r : Rps K Z H vs ds) {i : Int} {d : D} (e : L2.atI ds i = some d) : ∃ v, L2.atI vs i = some v ∧ Rp K Z H v d := by
  unfold L2.atI at e ⊢
  rw [r.len]
  cases q : ixN ds.length i with
  | none => rw [q] at e; cases e
  | some j =>
    rw [q] at e
    simp only [Option.bind_some] at e ⊢
    exact r.getD e
/-- xs[i] -/
def gIx : List D → Option (D × Nat)
  | [.lst ds, .int i] => (atI ds i).map fun d => (d, 0)
  | [.tup ds, .int i] => (atI ds i).map fun d => (d, 0)
  | [.con ds, .int i] => (atI ds i).map fun d => (d, 0)
  | [.scr ds, .int i] => (atI ds i).map fun d => (.int d, 9)
  | [.str z, .int i] => if z.length ≤ sizeLine then (atI z.cps.toList i).map fun c => (.str ⟨#[c]⟩, 9) else none
  | _ => none
theorem atI_map {α β : Type} (f : α → β) (xs : List α) (i : Int) : L2.atI (xs.map f) i = (L2.atI xs i).map f := by
  unfold L2.atI
  rw [List.length_map]
  cases ixN xs.length i with
  | none => rfl
  | some j => simp
theorem al_ix : AL K (two (rIx K)) gIx := by
  intro Z H vs ds d n Q hz k e q
  unfold gIx at e
  split at e
  · rename_i ds i
    cases e1 : atI ds i with
    | none => rw [e1] at e; cases e
    | some d1 =>
      rw [e1] at e
      cases e
      obtain ⟨x, y, rfl, ⟨p, xs, rfl, hp, r⟩, h2⟩ := k.two
      cases Rp.intE h2
      obtain ⟨v, ev, rv⟩ := r.atI e1
      exact ⟨_, _, rfl, .inl ⟨p, xs, i, v, rfl, rfl, .inl (.inl hp), ev, q v H [] (.refl _) ⟨rfl, rv⟩ List.nodup_nil fun a m => by simp at m⟩⟩
  · rename_i ds i
    cases e1 : atI ds i with
    | none => rw [e1] at e; cases e
    | some d1 =>
      rw [e1] at e
      cases e
      obtain ⟨x, y, rfl, h1, h2⟩ := k.two
      cases Rp.intE h2
      cases h1 with
      | tup s r =>
        obtain ⟨v, ev, rv⟩ := r.atI e1
        exact ⟨_, _, rfl, .inr (.inl ⟨_, _, i, v, rfl, rfl, .of s, ev, q v H [] (.refl _) ⟨rfl, rv⟩ List.nodup_nil fun a m => by simp at m⟩)⟩
  · rename_i ds i
    cases e1 : atI ds i with
    | none => rw [e1] at e; cases e
    | some d1 =>
      rw [e1] at e
      cases e
      obtain ⟨x, y, rfl, h1, h2⟩ := k.two
      cases Rp.intE h2
      cases h1 with
      | con s r =>
        obtain ⟨v, ev, rv⟩ := r.atI e1
        exact ⟨_, _, rfl, .inr (.inl ⟨_, _, i, v, rfl, rfl, s.sq, ev, q v H [] (.refl _) ⟨rfl, rv⟩ List.nodup_nil fun a m => by simp at m⟩)⟩
  · rename_i ns i
    cases e1 : atI ns i with
    | none => rw [e1] at e; cases e
    | some d1 =>
      rw [e1] at e
      cases e
      obtain ⟨x, y, rfl, h1, h2⟩ := k.two
      cases Rp.intE h2
      cases h1 with
      | scr s =>
        exact ⟨_, _, rfl, .inl ⟨_, _, i, .int d1, rfl, rfl, s.sq, by rw [atI_map, e1]; rfl, fin_imm (Z := Z) (.int _) (by simp) q⟩⟩
  · rename_i z i
    split at e
    · rename_i hl
      cases e1 : atI z.cps.toList i with
      | none => rw [e1] at e; cases e
      | some c =>
        rw [e1] at e
        cases e
        obtain ⟨x, y, rfl, h1, h2⟩ := k.two
        cases Rp.intE h2
        cases Rp.strE h1
        exact ⟨_, _, rfl, .inr (.inr ⟨z, i, c, rfl, rfl, hl, e1, fin_imm (Z := Z) (.str _) (by simp) q⟩)⟩
    · cases e
  · cases e
end
section
variable {X : Cx} {a b e : Expr} {es : List Expr} {fa fb fe : Fe} {fs : Fa} {pos : PySem.Pos} {x : Str} {p : PySem.Pos} {id T : String} {r : List V → Hp → VK → Prop}
theorem aa_nil : AA X [] mA0 := PA.mono pa_nil fun _ _ _ q => aOf_0 q
theorem aa_cons (ha : AE X e fe) (hr : AA X es fs) (hs : starEach (e :: es) X.env = (false, eval e X.env) :: starEach es X.env := by rfl) : AA X (e :: es) (mAc fe fs) := PA.mono (pa_cons ha hr hs) fun _ _ _ q => aOf_c q

theorem ae_blt {g : List D → Option (D × Nat)} (hc : CallR X (.builtin id) r) (hal : AL X.K r g) (hg : Gl X x) (hm : X.mg x = none) (hv : bootBuiltins x = some (.builtin id)) (ha : AA X (e :: es) fs) (hn : x ≠ "__name__" := by decide) (hdb : (x == ("__debug__" : Str)) = false := by decide)
    (he : starEach (e :: es) X.env = (false, eval e X.env) :: starEach es X.env := by rfl) (hpl : (backTo pos (starEach es X.env)).any (·.1) = false := by rfl) : AE X (.Call (.Name x p) (e :: es) [] pos) (mOp g fs) :=
  PE.mono (pe_callB hc hg hm hv ha hn hdb he hpl) fun _ _ _ q => op_of hal q
theorem ae_bty {g : List D → Option (D × Nat)} (hc : CallR X (.type T) r) (hal : AL X.K r g) (hg : Gl X x) (hm : X.mg x = none) (hv : bootBuiltins x = some (.type T)) (ha : AA X (e :: es) fs) (hn : x ≠ "__name__" := by decide) (hdb : (x == ("__debug__" : Str)) = false := by decide)
    (he : starEach (e :: es) X.env = (false, eval e X.env) :: starEach es X.env := by rfl) (hpl : (backTo pos (starEach es X.env)).any (·.1) = false := by rfl) : AE X (.Call (.Name x p) (e :: es) [] pos) (mOp g fs) :=
  PE.mono (pe_callTy hc hg hm hv ha hn hdb he hpl) fun _ _ _ q => op_of hal q
/-- a built-in type as a value -/
theorem ae_typ {n : String} (hg : Gl X x) (hm : X.mg x = none) (hv : bootBuiltins x = some (.type n)) (hn : x ≠ "__name__" := by decide) (hdb : (x == ("__debug__" : Str)) = false := by decide) : AE X (.Name x pos) (mC (.ty n)) :=
  PE.mono (pe_bltn (v := .ty n) hg hm hv rfl hn hdb) fun _ _ _ q => mC_of (fun _ _ => .ty n) (by simp) q
end
section
variable {K : PySem.W.Frag} {Z Z' : Addr → Prop} {H H' : Hp} {σ : L2.St}
/-- len -/
def gLen : List D → Option (D × Nat)
  | [.lst ds] => some (.int ds.length, 9)
  | [.tup ds] => some (.int ds.length, 9)
  | [.con ds] => some (.int ds.length, 9)
  | [.scr ds] => some (.int ds.length, 9)
  | [.str z] => if z.length ≤ sizeLine then some (.int z.length, 9) else none
  | _ => none
theorem al_len : AL K (fun xs H Q => ∃ x n, xs = [x] ∧ LenV K x H n ∧ Q (.int n) H) gLen := by
  intro Z H vs ds d n Q hz k e q
  unfold gLen at e
  split at e
  · cases e
    obtain ⟨x, rfl, ⟨p, xs, rfl, hp, r⟩⟩ := k.one
    exact ⟨_, xs.length, rfl, .inl ⟨xs, .inl (.inl hp), rfl⟩, by rw [r.len]; exact fin_imm (Z := Z) (.int _) (by simp) q⟩
  · cases e
    obtain ⟨x, rfl, h1⟩ := k.one
    cases h1 with
    | tup s r => exact ⟨_, _, rfl, .inr ⟨_, .of s, rfl⟩, by rw [r.len]; exact fin_imm (Z := Z) (.int _) (by simp) q⟩
  · cases e
    obtain ⟨x, rfl, h1⟩ := k.one
    cases h1 with
    | con s r => exact ⟨_, _, rfl, .inr ⟨_, s.sq, rfl⟩, by rw [r.len]; exact fin_imm (Z := Z) (.int _) (by simp) q⟩
  · cases e
    obtain ⟨x, rfl, h1⟩ := k.one
    cases h1 with
    | scr s => exact ⟨_, _, rfl, .inl ⟨_, s.sq, rfl⟩, by rw [List.length_map]; exact fin_imm (Z := Z) (.int _) (by simp) q⟩
  · split at e
    · rename_i hl
      cases e
      obtain ⟨x, rfl, h1⟩ := k.one
      cases Rp.strE h1
      exact ⟨_, _, rfl, ⟨hl, rfl⟩, fin_imm (Z := Z) (.int _) (by simp) q⟩
    · cases e
  · cases e
/-- the ints of some data -/
def iof : List D → Option (List Int)
  | [] => some []
  | .int i :: ds => (iof ds).map (i :: ·)
  | _ => none
theorem iof_eq : ∀ {ds : List D} {ns : List Int}, iof ds = some ns → ds = ns.map D.int
  | [], _, h => by cases h; rfl
  | d :: ds, ns, h => by
    cases d with
    | int i =>
      simp only [iof] at h
      cases q : iof ds with
      | none => rw [q] at h; cases h
      | some ms => rw [q] at h; cases h; simp [iof_eq q]
    | _ => simp [iof] at h
@[simp] theorem iof_map (ns : List Int) : iof (ns.map D.int) = some ns := by
  induction ns with
  | nil => rfl
  | cons n ns ih => simp [iof, ih]
/-- sum of a list of ints -/
def gSum : List D → Option (D × Nat)
  | [.lst ds] => (iof ds).map fun ns => (.int ns.sum, 9)
  | _ => none
def minL : List Int → Int
  | [] => 0
  | [a] => a
  | a :: as => min a (minL as)
theorem minL_mem : ∀ {ns : List Int}, ns ≠ [] → minL ns ∈ ns ∧ ∀ y ∈ ns, minL ns ≤ y
  | [a], _ => by simp [minL]
  | a :: b :: r, _ => by
    obtain ⟨h1, h2⟩ := minL_mem (ns := b :: r) (by simp)
    simp only [minL]
    refine ⟨?_, fun y hy => ?_⟩
    · by_cases c : a ≤ minL (b :: r)
      · rw [Int.min_eq_left c]; exact List.mem_cons_self
      · rw [Int.min_eq_right (by omega)]; exact List.mem_cons_of_mem _ h1
    · rcases List.mem_cons.mp hy with rfl | hy
      · omega
      · have := h2 y hy; omega
def gMin : List D → Option (D × Nat)
  | [.lst ds] => (iof ds).bind fun ns => if ns = [] then none else some (.int (minL ns), 9)
  | [.int i, .int j] => some (.int (min i j), 9)
  | _ => none
def rMins (K : PySem.W.Frag) : List V → Hp → VK → Prop := fun xs H Q => rMin K xs H Q ∨ (∃ i j, xs = [.int i, .int j] ∧ Q (.int (if j < i then j else i)) H)
theorem al_min : AL K (rMins K) gMin := by
  intro Z H vs ds d n Q hz k e q
  unfold gMin at e
  split at e
  · rename_i ds
    cases e1 : iof ds with
    | none => rw [e1] at e; cases e
    | some ns =>
      rw [e1] at e
      simp only [Option.bind_some] at e
      split at e
      · cases e
      · rename_i ne
        cases e
        cases iof_eq e1
        obtain ⟨x, rfl, ⟨p, xs, rfl, hp, r⟩⟩ := k.one
        cases r.ints
        refine .inl ⟨p, ns, rfl, .inl (.inl hp), by cases ns with | nil => exact absurd rfl ne | cons a b => simp, fun m hm hle => ?_⟩
        obtain ⟨h1, h2⟩ := minL_mem ne
        have e2 : m = minL ns := Int.le_antisymm (hle _ h1) (h2 m hm)
        rw [e2]
        exact fin_imm (Z := Z) (.int _) (by simp) q
  · rename_i i j
    cases e
    obtain ⟨x, y, rfl, h1, h2⟩ := k.two
    cases Rp.intE h1
    cases Rp.intE h2
    refine .inr ⟨i, j, rfl, ?_⟩
    have e2 : (if j < i then j else i) = min i j := by split <;> omega
    rw [e2]
    exact fin_imm (Z := Z) (.int _) (by simp) q
  · cases e
def gInt : List D → Option (D × Nat)
  | [.int i] => some (.int i, 9)
  | [.bl b] => some (.int (if b then 1 else 0), 9)
  | _ => none
theorem al_int : AL K (fun xs H Q => (∃ i, xs = [.int i] ∧ Q (.int i) H) ∨ ∃ k, xs = [.bl k] ∧ Q (.int (if k then 1 else 0)) H) gInt := by
  intro Z H vs ds d n Q hz k e q
  unfold gInt at e
  split at e
  · cases e
    obtain ⟨x, rfl, h1⟩ := k.one
    cases Rp.intE h1
    exact .inl ⟨_, rfl, fin_imm (Z := Z) (.int _) (by simp) q⟩
  · cases e
    obtain ⟨x, rfl, h1⟩ := k.one
    cases Rp.blE h1
    exact .inr ⟨_, rfl, fin_imm (Z := Z) (.int _) (by simp) q⟩
  · cases e
/-- list(xs), tuple(xs) -/
def gList : List D → Option (D × Nat)
  | [.lst ds] => some (.lst ds, lev ds)
  | [.tup ds] => some (.lst ds, lev ds)
  | _ => none
theorem al_list : AL K (fun xs H Q => ∃ p ys, xs = [.ref p] ∧ (SqL K H p ys ∨ SqT K H p ys) ∧ ∀ l, H l = none → Q (.ref l) (upd H l (.lst ys))) gList := by
  intro Z H vs ds d n Q hz k e q
  unfold gList at e
  split at e
  · cases e
    obtain ⟨x, rfl, ⟨p, xs, rfl, hp, r⟩⟩ := k.one
    exact ⟨p, xs, rfl, .inl (.inl (.inl hp)), fin_lst hz r q⟩
  · cases e
    obtain ⟨x, rfl, h1⟩ := k.one
    cases h1 with
    | tup s r => exact ⟨_, _, rfl, .inr (.of s), fin_lst hz r q⟩
  · cases e
def gTuple : List D → Option (D × Nat)
  | [.lst ds] => some (.tup ds, 0)
  | [.tup ds] => some (.tup ds, 0)
  | _ => none
theorem al_tuple : AL K (fun xs H Q => ∃ p ys, xs = [.ref p] ∧ ((SqL K H p ys ∧ ∀ l, H l = none → Q (.ref l) (upd H l (.tup ys))) ∨ (SqT K H p ys ∧ Q (.ref p) H))) gTuple := by
  intro Z H vs ds d n Q hz k e q
  unfold gTuple at e
  split at e
  · cases e
    obtain ⟨x, rfl, ⟨p, xs, rfl, hp, r⟩⟩ := k.one
    exact ⟨p, xs, rfl, .inl ⟨.inl (.inl hp), fin_tup r q⟩⟩
  · cases e
    obtain ⟨x, rfl, h1⟩ := k.one
    cases h1 with
    | tup s r => exact ⟨_, _, rfl, .inr ⟨.of s, q _ H [] (.refl _) ⟨rfl, .tup s r⟩ List.nodup_nil fun a m => by simp at m⟩⟩
  · cases e
/-- sorted of iof -/
def srt (ns : List Int) : List Int := ns.mergeSort (fun a b => decide (a ≤ b))
theorem srt_perm (ns : List Int) : (srt ns).Perm ns := List.mergeSort_perm _ _
theorem srt_pair (ns : List Int) : (srt ns).Pairwise (· ≤ ·) := by
  have h := List.pairwise_mergeSort (le := fun a b : Int => decide (a ≤ b)) (fun a b c h1 h2 => by simp at *; omega) (fun a b => by simp; omega) ns
  exact h.imp fun h => by simpa using h
theorem srt_uniq : ∀ {xs ys : List Int}, xs.Perm ys → xs.Pairwise (· ≤ ·) → ys.Pairwise (· ≤ ·) → xs = ys := fun p h1 h2 =>
  p.eq_of_pairwise (le := (· ≤ ·)) (fun _ _ _ _ h1 h2 => Int.le_antisymm h1 h2) h1 h2
def gSrtI : List D → Option (D × Nat)
  | [.lst ds] => (iof ds).map fun ns => (.lst ((srt ns).map D.int), 9)
  | _ => none
theorem lev_ints (ns : List Int) : lev (ns.map D.int) = 9 := by unfold lev; rw [imms_map _ (fun _ => by simp)]; rfl
theorem al_srtI : AL K (rSortedI K) gSrtI := by
  intro Z H vs ds d n Q hz k e q
  unfold gSrtI at e
  split at e
  · rename_i ds
    cases e1 : iof ds with
    | none => rw [e1] at e; cases e
    | some ns =>
      rw [e1] at e
      cases e
      cases iof_eq e1
      obtain ⟨x, rfl, ⟨p, xs, rfl, hp, r⟩⟩ := k.one
      cases r.ints
      refine ⟨p, ns, rfl, .inl (.inl hp), fun ns' p' pm so hn => ?_⟩
      have e2 : ns' = srt ns := srt_uniq (pm.trans (srt_perm ns).symm) so (srt_pair ns)
      subst e2
      have := fin_lst (Q := Q) hz (Rps.ofInts (K := K) (Z := Z) (H := H) (srt ns)) (by rw [lev_ints]; exact q)
      exact this p' hn
  · cases e
/-- isinstance -/
def tyOf : D → Option String
  | .non => some "NoneType"
  | .bl _ => some "bool"
  | .int _ => some "int"
  | .str _ => some "str"
  | .tup _ => some "tuple"
  | .con _ => some "tuple"
  | .lst _ => some "list"
  | .dK _ => some "dict"
  | .dT _ => some "dict"
  | _ => none
/-- what isinstance of built-in types says, for those that are met here -/
def isi (a b : String) : Option Bool :=
  if b = "int" then some (a == "int" || a == "bool")
  else if b = "bool" ∨ b = "str" ∨ b = "tuple" ∨ b = "list" ∨ b = "dict" then some (a == b) else none
theorem isi_kit {d : D} {a b : String} {r : Bool} (h : tyOf d = some a) (e : isi a b = some r) : kitB a b = some r := by
  have ha : a = "NoneType" ∨ a = "bool" ∨ a = "int" ∨ a = "str" ∨ a = "tuple" ∨ a = "list" ∨ a = "dict" := by
    cases d <;> simp [tyOf] at h <;> subst h <;> simp
  unfold isi at e
  split at e
  · rename_i hb
    subst hb
    cases e
    rcases ha with rfl | rfl | rfl | rfl | rfl | rfl | rfl <;> decide +kernel
  · split at e
    · rename_i hb
      cases e
      rcases hb with rfl | rfl | rfl | rfl | rfl <;> rcases ha with rfl | rfl | rfl | rfl | rfl | rfl | rfl <;> decide +kernel
    · cases e
theorem Kf.ty {v : V} {d : D} {n : String} (h : Kf K Z H v d) (e : tyOf d = some n) : TyX K H v (.type n) := by
  cases d with
  | non => cases e; cases Rp.nonE h; exact .base .non
  | bl b => cases e; cases Rp.blE h; exact .base (.bl b)
  | int b => cases e; cases Rp.intE h; exact .base (.int b)
  | str b => cases e; cases Rp.strE h; exact .base (.str b)
  | tup ds =>
    cases e
    cases h with
    | tup s r =>
      exact .base (.tup s)
  | con ds =>
    cases e
    cases h with
    | con s r =>
      obtain ⟨o, its, m, s, c, _⟩ := s
      exact .kTuple s c
  | lst ds => cases e; obtain ⟨a, vs, rfl, ha, _⟩ := h; exact .base (.lst ha)
  | dK ds =>
    cases e
    obtain ⟨a, vs, rfl, ha, _⟩ := h
    rcases ha with ha | ⟨o, ha⟩
    · exact .base (.dK ha)
    · exact .fDict ha
  | dT ds => cases e; obtain ⟨a, vs, rfl, ha, _⟩ := h; exact .base (.dT ha)
  | _ => simp [tyOf] at e
def gIsi : List D → Option (D × Nat)
  | [d, .ty b] => (tyOf d).bind fun a => (isi a b).map fun r => (.bl r, 9)
  | [d, .tup [.ty b, .ty c]] => (tyOf d).bind fun a => (isi a b).bind fun r => (isi a c).map fun r2 => (.bl (r || r2), 9)
  | _ => none
theorem isi_any {d : D} {a b c : String} {r r2 : Bool} (h : tyOf d = some a) (e : isi a b = some r) (e2 : isi a c = some r2) : PySem.W.kitAny K (.type a) [.type b, .type c] = some (r || r2) := by
  refine kitAny_cons (kit_ty (isi_kit h e)) (fun z => ?_) fun z => by rw [z]; rfl
  rw [z, Bool.false_or]
  exact kitAny_cons (kit_ty (isi_kit h e2)) (fun z => by rw [z]; exact kitAny_nil) fun z => z
theorem al_isi : AL K (fun vs H Q => rIsi K vs H Q ∨ rIsiT K vs H Q ∨ rIsiK K vs H Q) gIsi := by
  intro Z H vs ds d n Q hz k e q
  unfold gIsi at e
  split at e
  · rename_i d b
    cases e1 : tyOf d with
    | none => rw [e1] at e; cases e
    | some a =>
      rw [e1] at e
      simp only [Option.bind_some] at e
      cases e2 : isi a b with
      | none => rw [e2] at e; cases e
      | some r =>
        rw [e2] at e
        cases e
        obtain ⟨x, y, rfl, h1, h2⟩ := k.two
        cases (show Rp K Z H y (.ty b) from h2)
        exact .inl ⟨x, _, _, _, r, rfl, .ty b, h1.ty e1, kit_ty (isi_kit e1 e2), fin_imm (Z := Z) (.bl _) (by simp) q⟩
  · rename_i d b c
    cases e1 : tyOf d with
    | none => rw [e1] at e; cases e
    | some a =>
      rw [e1] at e
      simp only [Option.bind_some] at e
      cases e2 : isi a b with
      | none => rw [e2] at e; cases e
      | some r =>
        rw [e2] at e
        simp only [Option.bind_some] at e
        cases e3 : isi a c with
        | none => rw [e3] at e; cases e
        | some r2 =>
          rw [e3] at e
          cases e
          obtain ⟨x, y, rfl, h1, h2⟩ := k.two
          have kk := isi_any (K := K) e1 e2 e3
          cases (show Rp K Z H y (.tup [.ty b, .ty c]) from h2) with
          | tup s rr =>
            obtain ⟨v1, v2, rfl, r1, r3⟩ := rr.two
            cases r1
            cases r3
            exact .inr (.inl ⟨x, _, _, _, _, _, rfl, s, .cons (.ty b) (.cons (.ty c) .nil), h1.ty e1, kk, fin_imm (Z := Z) (.bl _) (by simp) q⟩)
  · cases e
end
end Zk
namespace Zk
open PySem PySem.Spec PyProof.Rows L2

section
variable {K : PySem.W.Frag} {Z Z' : Addr → Prop} {H H' : Hp} {σ : L2.St} {E E' : Ev} {R R' : Rs}
/-- taken items -/
abbrev TL (K : PySem.W.Frag) (Z : Addr → Prop) (H : Hp) : List V → List (D × Nat) → List (List Addr) → Prop := All3 fun v dn rs => Own K Z H dn.2 v dn.1 rs
def tkL (E : Ev) : List Op → Option (List (D × Nat) × Ev)
  | [] => some ([], E)
  | o :: os => (tk E o).bind fun p => (tkL p.2.2 os).map fun q => ((p.1, p.2.1) :: q.1, q.2)
theorem S.takeL : ∀ {vs : List V} {os : List Op} {rss : List (List Addr)} {ds : List (D × Nat)} {Z : Addr → Prop} {E E' : Ev} {R : Rs}, S K Z H σ E R → All3 (OV K Z H σ) vs os rss → (∀ a ∈ rss.flatten, ¬ ow R a) → tkL E os = some (ds, E') →
    ∃ Zf R', S K Zf H σ E' R' ∧ Step Z H (ow R) Zf H (ow R') ∧ TL K Zf H vs ds rss ∧ (∀ a ∈ rss.flatten, ¬ ow R' a) ∧ (∀ a, ow R' a → ow R a)
  | _, _, _, _, Z, E, E', R, s, .nil, no, e => by
    cases e
    exact ⟨Z, R, s, .refl, .nil, no, fun _ h => h⟩
  | _, _, _, _, Z, E, E', R, s, .cons (a := v) (b := o) (bs := os) (c := rs) (cs := rss) h t, no, e => by
    simp only [tkL] at e
    have no1 : ∀ a ∈ rs, ¬ ow R a := fun a m => no a (by rw [List.flatten_cons, List.mem_append]; exact .inl m)
    have no2 : ∀ a ∈ rss.flatten, ¬ ow R a := fun a m => no a (by rw [List.flatten_cons, List.mem_append]; exact .inr m)
    cases q : tk E o with
    | none => rw [q] at e; cases e
    | some p =>
      obtain ⟨d, n, E1⟩ := p
      rw [q] at e
      cases q2 : tkL E1 os with
      | none => simp only [Option.bind_some, q2] at e; cases e
      | some p2 =>
        obtain ⟨ds, E2⟩ := p2
        simp only [Option.bind_some, q2, Option.map_some, Option.some.injEq, Prod.mk.injEq] at e
        obtain ⟨rfl, rfl⟩ := e
        obtain ⟨Z1, R1, s1, t1, o1, n1, sub1⟩ := s.take h no1 q
        have a1 : All3 (OV K Z1 H σ) _ os rss := t.imp fun v' o' rs' m hh => (s.pendO t1 hh fun a ma => no2 a (mem_flatten_of m ma)).1
        obtain ⟨Zf, R2, s2, t2, tl2, n2, sub2⟩ := S.takeL s1 a1 (fun a m z => no2 a m (sub1 a z)) q2
        obtain ⟨k1, k2⟩ := s1.pend t2 o1 n1
        refine ⟨Zf, R2, s2, t1.trans t2, .cons k1 tl2, fun a m => ?_, fun a z => sub1 a (sub2 a z)⟩
        rw [List.flatten_cons, List.mem_append] at m
        rcases m with m | m
        · exact k2 a m
        · exact n2 a m
theorem TL.there {vs : List V} {ds : List (D × Nat)} {rss : List (List Addr)} (h : TL K Z H vs ds rss) : ∀ a ∈ rss.flatten, H a ≠ none := by
  induction h with
  | nil => intro a m; simp at m
  | cons h t ih =>
    intro a m
    rw [List.flatten_cons, List.mem_append] at m
    rcases m with m | m
    · exact Own.there h a m
    · exact ih a m
theorem TL.notZ {vs : List V} {ds : List (D × Nat)} {rss : List (List Addr)} (h : TL K Z H vs ds rss) : ∀ a ∈ rss.flatten, ¬ Z a := by
  induction h with
  | nil => intro a m; simp at m
  | cons h t ih =>
    intro a m
    rw [List.flatten_cons, List.mem_append] at m
    rcases m with m | m
    · exact (Own.mut h a m).2
    · exact ih a m
theorem TL.froz (p : Pers Z H Z' H') {vs : List V} {ds : List (D × Nat)} {rss : List (List Addr)} (h : TL K Z H vs ds rss) (k : ∀ a ∈ rss.flatten, H' a = H a ∧ Z' a) : Rps K Z' H' vs (ds.map (·.1)) := by
  induction h with
  | nil => exact .nil
  | cons h t ih =>
    refine .cons (Own.freeze p (fun a m => k a (by rw [List.flatten_cons, List.mem_append]; exact .inl m)) h) (ih fun a m => k a (by rw [List.flatten_cons, List.mem_append]; exact .inr m))
theorem TL.keep (p : Pers Z H Z' H') {vs : List V} {ds : List (D × Nat)} {rss : List (List Addr)} (h : TL K Z H vs ds rss) (k : ∀ a ∈ rss.flatten, H' a = H a ∧ ¬ Z' a) : TL K Z' H' vs ds rss :=
  All3.imp h fun v d rs m o => o.keep p fun a ma => k a (mem_flatten_of m ma)
theorem TL.len {vs : List V} {ds : List (D × Nat)} {rss : List (List Addr)} (h : TL K Z H vs ds rss) : vs.length = ds.length := by
  induction h with
  | nil => rfl
  | cons _ _ ih => simp [ih]
/-- how deep a new list of taken items is ours: all items unchangeable; all others of one depth; else they are frozen -/
def uni (ds : List (D × Nat)) : Nat :=
  if imms (ds.map (·.1)) = true then 9 else
    match ds.find? (fun d => !imm d.1) with
    | some d => if ds.all (fun e => imm e.1 || e.2 == d.2) = true then d.2 + 1 else 1
    | none => 9
theorem TL.all {n : Nat} : ∀ {vs : List V} {ds : List (D × Nat)} {rss : List (List Addr)}, TL K Z H vs ds rss → ds.all (fun e => imm e.1 || e.2 == n) = true → All3 (Own K Z H n) vs (ds.map (·.1)) rss
  | _, _, _, .nil, _ => .nil
  | _, _, _, .cons (b := d) (c := rs) h t, a => by
    simp only [List.all_cons, Bool.and_eq_true, Bool.or_eq_true, beq_iff_eq] at a
    refine .cons ?_ (TL.all t a.2)
    rcases a.1 with i | e
    · obtain ⟨rfl, r⟩ := h.imm i
      exact .ofImm r i
    · rw [← e]; exact h
theorem TL.immR : ∀ {vs : List V} {ds : List (D × Nat)} {rss : List (List Addr)}, TL K Z H vs ds rss → imms (ds.map (·.1)) = true → Rps K Z H vs (ds.map (·.1)) ∧ rss.flatten = []
  | _, _, _, .nil, _ => ⟨.nil, rfl⟩
  | _, _, _, .cons h t, i => by
    simp only [List.map_cons, imms_cons, Bool.and_eq_true] at i
    obtain ⟨rfl, r⟩ := h.imm i.1
    obtain ⟨r2, e2⟩ := TL.immR t i.2
    exact ⟨.cons r r2, by rw [List.flatten_cons, e2]; rfl⟩
/-- a new list of taken items -/
theorem S.newList (s : S K Z H σ E R) {vs : List V} {ds : List (D × Nat)} {rss : List (List Addr)} (h : TL K Z H vs ds rss) (nd : rss.flatten.Nodup) (no : ∀ a ∈ rss.flatten, ¬ ow R a) {p : Addr} (hp : H p = none) :
    ∃ Zf rs, S K Zf (upd H p (.lst vs)) σ E R ∧ Own K Zf (upd H p (.lst vs)) (uni ds) (.ref p) (.lst (ds.map (·.1))) rs ∧ rs.Nodup ∧ (∀ a ∈ rs, a = p ∨ a ∈ rss.flatten) ∧ (∀ a, Z a → Zf a) ∧ (∀ a, Zf a → Z a ∨ a ∈ rss.flatten) := by
  have m : More H (upd H p (.lst vs)) := .upd hp
  have th := TL.there h
  have pne : ∀ a ∈ rss.flatten, a ≠ p := fun a ma e => th a ma (by rw [e]; exact hp)
  have nz : ¬ Z p := fun z => s.zd p z hp
  have froz : ∃ Zf rs, S K Zf (upd H p (.lst vs)) σ E R ∧ Own K Zf (upd H p (.lst vs)) 1 (.ref p) (.lst (ds.map (·.1))) rs ∧ rs.Nodup ∧ (∀ a ∈ rs, a = p ∨ a ∈ rss.flatten) ∧ (∀ a, Z a → Zf a) ∧ (∀ a, Zf a → Z a ∨ a ∈ rss.flatten) := by
    have s1 := (s.chill no th).more m
    refine ⟨_, [p], s1, ⟨p, vs, _, rfl, upd_same, fun z => ?_, All3.ofRps0 (h.froz (Z' := fun a => Z a ∨ a ∈ rss.flatten) (m.pers fun _ h => .inl h) fun a ma => ⟨upd_ne (pne a ma), .inr ma⟩), by rw [flat_nils]⟩, by simp, fun a ma => .inl (by simpa using ma), fun _ h => .inl h, fun _ h => h⟩
    rcases z with z | z
    · exact nz z
    · exact pne p z rfl
  unfold uni
  split
  · rename_i i
    obtain ⟨r, e⟩ := h.immR i
    exact ⟨Z, [p], s.more m, ⟨p, vs, _, rfl, upd_same, nz, All3.ofRpsI (r.pers (m.pers fun _ h => h)) i, by rw [flat_nils]⟩, by simp, fun a ma => .inl (by simpa using ma), fun _ h => h, fun _ h => .inl h⟩
  · split
    · rename_i d hd
      split
      · rename_i a
        have h2 : TL K Z (upd H p (.lst vs)) vs ds rss := h.keep (m.pers fun _ h => h) fun a ma => ⟨upd_ne (pne a ma), TL.notZ h a ma⟩
        refine ⟨Z, p :: rss.flatten, s.more m, ⟨p, vs, rss, rfl, upd_same, nz, h2.all a, rfl⟩, List.nodup_cons.mpr ⟨fun z => pne p z rfl, nd⟩, fun a ma => List.mem_cons.mp ma, fun _ h => h, fun _ h => .inl h⟩
      · exact froz
    · rename_i hn _ hi
      exact absurd (by
        rw [imms_all, List.all_map, List.all_eq_true]
        intro x hx
        have := List.find?_eq_none.mp hi x hx
        simpa using this) hn
def mLst (fa : Fa) : Fe := fun E => (fa E).bind fun p => (tkL p.2 p.1).bind fun q => if q.1.length ≤ sizeLine then some (.val (.lst (q.1.map (·.1))) (uni q.1), q.2) else none
def mTup (fa : Fa) : Fe := fun E => (fa E).bind fun p => (tkL p.2 p.1).bind fun q => if q.1.length ≤ sizeLine then some (.val (.tup (q.1.map (·.1))) 0, q.2) else none
theorem take_of {fa : Fa} {g : List (D × Nat) → Option (D × Nat)} {f : Fe} (hf : ∀ E, f E = (fa E).bind fun p => (tkL p.2 p.1).bind fun q => (g q.1).map fun d => (.val d.1 d.2, q.2)) {Q : VK} {r : List V → Hp → Prop}
    (h : ∀ Z0 H0 R0 Z H E R vs ds d n rss, S K Z H σ E R → Step Z0 H0 (ow R0) Z H (ow R) → TL K Z H vs ds rss → Fr R0 H0 R rss.flatten → g ds = some (d, n) →
      (∀ v Z' H' rs, S K Z' H' σ E R → Step Z0 H0 (ow R0) Z' H' (ow R) → Own K Z' H' n v d rs → Fr R0 H0 R rs → Q v H') → r vs H) {H : Hp} (q : eOf K f σ H Q) : aOf K fa σ H r := by
  obtain ⟨Z, E, R, s, o, E', e, q⟩ := q
  rw [hf] at e
  cases e1 : fa E with
  | none => rw [e1] at e; cases e
  | some p =>
    obtain ⟨os, E1⟩ := p
    rw [e1] at e
    simp only [Option.bind_some] at e
    cases e2 : tkL E1 os with
    | none => rw [e2] at e; cases e
    | some p2 =>
      obtain ⟨ds, E2⟩ := p2
      rw [e2] at e
      simp only [Option.bind_some] at e
      cases e3 : g ds with
      | none => rw [e3] at e; cases e
      | some d =>
        rw [e3] at e
        cases e
        refine ⟨Z, E, R, s, os, E1, e1, fun vs Z1 H1 R1 rss s1 t1 a1 f1 => ?_⟩
        obtain ⟨Zf, R2, s2, t2, tl, no2, sub⟩ := s1.takeL a1 f1.no e2
        exact h Z H R Zf H1 _ R2 vs ds d.1 d.2 rss s2 (t1.trans t2) tl ⟨f1.nd, no2, f1.of⟩ e3 fun v Z' H' rs s' t' o' f' => q v Z' H' R2 rs s' t' o' f'
theorem lst_of {fa : Fa} {H : Hp} {Q : VK} (q : eOf K (mLst fa) σ H Q) : aOf K fa σ H fun xs H1 => xs.length ≤ sizeLine ∧ ∀ p, H1 p = none → Q (.ref p) (upd H1 p (.lst xs)) :=
  take_of (g := fun ds => if ds.length ≤ sizeLine then some (.lst (ds.map (·.1)), uni ds) else none) (fun E => by
    unfold mLst
    congr 1; funext p; congr 1; funext q
    split <;> rfl) (fun Z0 H0 R0 Z H E R vs ds d n rss s t tl fr e q => by
    split at e
    · rename_i hl
      cases e
      refine ⟨by rw [tl.len]; exact hl, fun p hp => ?_⟩
      obtain ⟨Zf, rs, s2, o2, nd2, in2, zz, zn⟩ := s.newList tl fr.nd fr.no hp
      refine q _ Zf _ rs s2 (t.fin zz (fun a z => ?_) (.upd hp) fun a h => .inl h) o2 ⟨nd2, fun a m => ?_, fun a m => ?_⟩
      · rcases zn a z with z | z
        · exact .inl z
        · rcases fr.of a z with z | z
          · exact .inr (.inr (.inl z))
          · exact .inr (.inr (.inr z))
      · rcases in2 a m with rfl | m
        · exact fun z => s.there z hp
        · exact fr.no a m
      · rcases in2 a m with rfl | m
        · by_cases c : H0 a = none
          · exact .inr c
          · exact absurd hp (t.dm a c)
        · exact fr.of a m
    · cases e) q
theorem tup_of {fa : Fa} {H : Hp} {Q : VK} (q : eOf K (mTup fa) σ H Q) : aOf K fa σ H fun xs H1 => xs.length ≤ sizeLine ∧ ∀ p, H1 p = none → Q (.ref p) (upd H1 p (.tup xs)) :=
  take_of (g := fun ds => if ds.length ≤ sizeLine then some (.tup (ds.map (·.1)), 0) else none) (fun E => by
    unfold mTup
    congr 1; funext p; congr 1; funext q
    split <;> rfl) (fun Z0 H0 R0 Z H E R vs ds d n rss s t tl fr e q => by
    split at e
    · rename_i hl
      cases e
      refine ⟨by rw [tl.len]; exact hl, fun p hp => ?_⟩
      have m : More H (upd H p (.tup vs)) := .upd hp
      have th := TL.there tl
      have s1 := (s.chill fr.no th).more m
      refine q _ _ _ [] s1 (t.fin (fun _ h => .inl h) (fun a z => ?_) m fun a h => .inl h) ⟨rfl, .tup upd_same (tl.froz (m.pers fun _ h => .inl h) fun a ma => ⟨upd_ne fun e => th a ma (by rw [e]; exact hp), .inr ma⟩)⟩ .nil
      rcases z with z | z
      · exact .inl z
      · rcases fr.of a z with z | z
        · exact .inr (.inr (.inl z))
        · exact .inr (.inr (.inr z))
    · cases e) q
end
section
variable {X : Cx} {a b e : Expr} {es : List Expr} {fa fb fe : Fe} {fs : Fa} {pos : PySem.Pos}
theorem ae_lst (h : AA X es fs) : AE X (.List es pos) (mLst fs) := PE.mono (pe_lst h) fun _ _ _ q => lst_of q
theorem ae_tup {x1} (h : AA X es fs) : AE X (.Tuple es x1 pos) (mTup fs) := PE.mono (pe_tup h) fun _ _ _ q => tup_of q

/-- the ends of a slice: None for a part left out -/
def cutD (xs : List D) (lo hi : Option Int) : List D := (xs.drop (HT.sIx xs.length 0 lo)).take (HT.sIx xs.length xs.length hi - HT.sIx xs.length 0 lo)
def part : D → Option (Option Int)
  | .non => some none
  | .int i => some (some i)
  | _ => none
def gSl : List D → Option (D × Nat)
  | [.lst ds, l, h] => (part l).bind fun l => (part h).map fun h => (.lst (cutD ds l h), lev (cutD ds l h))
  | [.scr ns, l, h] => (part l).bind fun l => (part h).map fun h => (.lst (cutD (ns.map D.int) l h), lev (cutD (ns.map D.int) l h))
  | [.tup ds, l, h] => (part l).bind fun l => (part h).map fun h => (.tup (cutD ds l h), 0)
  | [.str z, l, h] => (part l).bind fun l => (part h).bind fun h => if z.length ≤ sizeLine then some (.str (cutS z l h), 9) else none
  | _ => none
end
section
variable {K : PySem.W.Frag} {Z Z' : Addr → Prop} {H H' : Hp} {σ : L2.St}
theorem Rps.cut {vs : List V} {ds : List D} (r : Rps K Z H vs ds) (lo hi : Option Int) : Rps K Z H (cutV vs lo hi) (cutD ds lo hi) := by
  unfold cutV cutD
  rw [r.len]
  exact (r.drop _).take _
def rSls (K : PySem.W.Frag) : V → Option Int → Option Int → Hp → VK → Prop := fun x lo hi H Q => rSlL K x lo hi H Q ∨ rSlA K x lo hi H Q ∨ rSlS x lo hi H Q
def rS3 (K : PySem.W.Frag) : List V → Hp → VK → Prop := fun vs H Q => ∃ x l h lo hi, vs = [x, l, h] ∧ ((l = .non ∧ lo = none) ∨ ∃ i, l = .int i ∧ lo = some i) ∧ ((h = .non ∧ hi = none) ∨ ∃ i, h = .int i ∧ hi = some i) ∧ rSls K x lo hi H Q
theorem Kf.part {v : V} {d : D} {o : Option Int} (h : Kf K Z H v d) (e : part d = some o) : (v = .non ∧ o = none) ∨ ∃ i, v = .int i ∧ o = some i := by
  cases d with
  | non => cases e; cases Rp.nonE h; exact .inl ⟨rfl, rfl⟩
  | int i => cases e; cases Rp.intE h; exact .inr ⟨i, rfl, rfl⟩
  | _ => simp [Zk.part] at e
theorem Kfs.three {vs : List V} {a b c : D} (h : Kfs K Z H vs [a, b, c]) : ∃ x y z, vs = [x, y, z] ∧ Kf K Z H x a ∧ Kf K Z H y b ∧ Kf K Z H z c := by
  cases h with
  | cons h t =>
    obtain ⟨y, z, rfl, h2, h3⟩ := t.two
    exact ⟨_, _, _, rfl, h, h2, h3⟩
theorem al_sl : AL K (rS3 K) gSl := by
  intro Z H vs ds d n Q hz k e q
  unfold gSl at e
  split at e
  · rename_i ds l h
    cases e1 : part l with
    | none => rw [e1] at e; cases e
    | some lo =>
      cases e2 : part h with
      | none => rw [e1, e2] at e; cases e
      | some hi =>
        rw [e1, e2] at e
        cases e
        obtain ⟨x, y, z, rfl, ⟨p, xs, rfl, hp, r⟩, h2, h3⟩ := k.three
        exact ⟨_, _, _, lo, hi, rfl, h2.part e1, h3.part e2, .inl ⟨p, xs, rfl, .inl (.inl hp), fin_lst hz (r.cut lo hi) q⟩⟩
  · rename_i ds l h
    cases e1 : part l with
    | none => rw [e1] at e; cases e
    | some lo =>
      cases e2 : part h with
      | none => rw [e1, e2] at e; cases e
      | some hi =>
        rw [e1, e2] at e
        cases e
        obtain ⟨x, y, z, rfl, h1, h2, h3⟩ := k.three
        cases h1 with
        | scr s => exact ⟨_, _, _, lo, hi, rfl, h2.part e1, h3.part e2, .inl ⟨_, _, rfl, s.sq, fin_lst hz ((Rps.ofInts (K := K) (Z := Z) (H := H) ds).cut lo hi) q⟩⟩
  · rename_i ds l h
    cases e1 : part l with
    | none => rw [e1] at e; cases e
    | some lo =>
      cases e2 : part h with
      | none => rw [e1, e2] at e; cases e
      | some hi =>
        rw [e1, e2] at e
        cases e
        obtain ⟨x, y, z, rfl, h1, h2, h3⟩ := k.three
        cases h1 with
        | tup s r =>
          refine ⟨_, _, _, lo, hi, rfl, h2.part e1, h3.part e2, .inr (.inl ⟨_, _, rfl, .of s, fun c => ?_, fun c => fin_tup (r.cut lo hi) q⟩)⟩
          have e4 : cutD ds lo hi = ds := by
            unfold cutD
            rw [← r.len, c.1, c.2]
            simp [r.len]
          rw [e4] at q
          exact q _ H [] (.refl _) ⟨rfl, .tup s r⟩ List.nodup_nil fun a m => by simp at m
  · rename_i z0 l h
    cases e1 : part l with
    | none => rw [e1] at e; cases e
    | some lo =>
      cases e2 : part h with
      | none => rw [e1, e2] at e; cases e
      | some hi =>
        rw [e1, e2] at e
        simp only [Option.bind_some] at e
        split at e
        · rename_i hl
          cases e
          obtain ⟨x, y, z, rfl, h1, h2, h3⟩ := k.three
          cases Rp.strE h1
          exact ⟨_, _, _, lo, hi, rfl, h2.part e1, h3.part e2, .inr (.inr ⟨z0, rfl, hl, fin_imm (Z := Z) (.str _) (by simp) q⟩)⟩
        · cases e
  · cases e
end
section
variable {X : Cx} {a b e : Expr} {es : List Expr} {fa fb fe fl fh : Fe} {fs : Fa} {pos : PySem.Pos} {lo hi : Option Expr}
def Pt (v : V) (o : Option Int) : Prop := (v = .non ∧ o = none) ∨ ∃ i, v = .int i ∧ o = some i
/-- a part of a slice -/
def AO (X : Cx) (e : Option Expr) (f : Fe) : Prop := ∃ t, PO X e t ∧ ∀ σ H (Q : VK) (Q' : Option Int → Hp → Prop), (∀ v H1, Q v H1 → ∀ o, Pt v o → Q' o H1) → eOf X.K f σ H Q → t σ H Q'
theorem ao_none : AO X none (mC .non) := ⟨_, po_none, fun σ H Q Q' h q => h .non H (mC_of (v := .non) (fun _ _ => .non) (by simp) q) none (.inl ⟨rfl, rfl⟩)⟩
def mInt (f : Fe) : Fe := fun E => (f E).bind fun p => (rd p.2 p.1).bind fun d => match d with
  | .int i => some (.val (.int i) 9, p.2)
  | _ => none
theorem mInt_of {K : PySem.W.Frag} {f : Fe} {σ : L2.St} {H : Hp} {Q : VK} (q : eOf K (mInt f) σ H Q) : eOf K f σ H fun v H1 => ∃ i, v = .int i ∧ Q (.int i) H1 := by
  obtain ⟨Z, E, R, s, o, E', e, q⟩ := q
  unfold mInt at e
  cases e1 : f E with
  | none => rw [e1] at e; cases e
  | some p =>
    obtain ⟨o1, E1⟩ := p
    rw [e1] at e
    simp only [Option.bind_some] at e
    cases e2 : rd E1 o1 with
    | none => rw [e2] at e; cases e
    | some d =>
      rw [e2] at e
      simp only [Option.bind_some] at e
      split at e
      · cases e
        refine ⟨Z, E, R, s, o1, _, e1, fun v Z' H' R' rs s' t' o' f' => ?_⟩
        exact ⟨_, (s'.read o' e2).intE, q _ Z' H' R' [] s' t' (Own.ofImm (.int _) (by simp)) .nil⟩
      · cases e
theorem ao_some (h : AE X e fe) : AO X (some e) (mInt fe) := ⟨_, po_some h, fun σ H Q Q' hh q => by
  obtain ⟨Z, E, R, s, o, E', e, q⟩ := mInt_of q
  refine ⟨Z, E, R, s, o, E', e, fun v Z' H' R' rs s' t' o' f' => ?_⟩
  obtain ⟨i, ev, q⟩ := q v Z' H' R' rs s' t' o' f'
  exact ⟨i, ev, hh _ _ q _ (.inr ⟨i, rfl, rfl⟩)⟩⟩
def mSl (a l h : Fe) : Fe := mOp gSl (mAc a (mAc l (mAc h mA0)))
theorem eOf_imp {K : PySem.W.Frag} {f : Fe} {σ : L2.St} {H : Hp} {Q Q' : VK} (h : ∀ v H1, Q v H1 → Q' v H1) (q : eOf K f σ H Q) : eOf K f σ H Q' := by
  obtain ⟨Z, E, R, s, o, E', e, q⟩ := q
  exact ⟨Z, E, R, s, o, E', e, fun v Z' H' R' rs s' t' o' f' => h _ _ (q v Z' H' R' rs s' t' o' f')⟩
theorem ae_sl {p2 : PySem.Pos} (ha : AE X a fa) (hl : AO X lo fl) (hh : AO X hi fh) : AE X (.Subscript a (.Slice lo hi none p2) pos) (mSl fa fl fh) := by
  obtain ⟨tl, h1, k1⟩ := hl
  obtain ⟨th, h2, k2⟩ := hh
  refine PE.mono (pe_slice (sl_list.or (sl_tupA.or sl_str)) ha h1 h2) fun σ H Q q => ?_
  refine eOf_imp (fun x H1 q1 => ?_) (aOf_c (op_of al_sl q))
  refine k1 σ H1 _ _ (fun y H2 q2 lo hlo => ?_) (aOf_c q1)
  refine k2 σ H2 _ _ (fun z H3 q3 hi hhi => ?_) (aOf_c q2)
  obtain ⟨x', y', z', lo', hi', e, p1, p2, r⟩ := aOf_0 q3
  cases e
  have e1 : lo' = lo := by
    rcases p1 with ⟨a, b⟩ | ⟨i, a, b⟩ <;> rcases hlo with ⟨c, d⟩ | ⟨j, c, d⟩ <;> subst_vars <;> simp_all
  have e2 : hi' = hi := by
    rcases p2 with ⟨a, b⟩ | ⟨i, a, b⟩ <;> rcases hhi with ⟨c, d⟩ | ⟨j, c, d⟩ <;> subst_vars <;> simp_all
  subst e1 e2
  exact r
end
end Zk
namespace Zk
open PySem PySem.Spec PyProof.Rows L2

def kD : Key → D
  | .inl i => .int i
  | .inr x => .str x
def keyOf : D → Option Key
  | .int i => some (.inl i)
  | .str x => some (.inr x)
  | _ => none
def keysOf : List D → Option (List Key)
  | [] => some []
  | d :: ds => (keyOf d).bind fun k => (keysOf ds).map fun ks => k :: ks
def valD {κ : Type} [DecidableEq κ] (kvs : List (κ × D)) (k : κ) : Option D := (kvs.find? fun kv => decide (kv.1 = k)).map (·.2)
def putD {κ : Type} [DecidableEq κ] (kvs : List (κ × D)) (k : κ) (v : D) : List (κ × D) :=
  if (kvs.any fun kv => decide (kv.1 = k)) = true then kvs.map (fun kv => if kv.1 = k then (kv.1, v) else kv) else kvs ++ [(k, v)]
def isDct : D → Bool
  | .dK _ => true
  | .dT _ => true
  | _ => false
section
variable {K : PySem.W.Frag} {Z Z' : Addr → Prop} {H H' : Hp} {σ : L2.St} {κ : Type} [DecidableEq κ]
/-- two rows of keys and values that stand for one another -/
def KR (K : PySem.W.Frag) (Z : Addr → Prop) (H : Hp) (kvs : List (κ × V)) (kds : List (κ × D)) : Prop := kvs.map (·.1) = kds.map (·.1) ∧ Rps K Z H (kvs.map (·.2)) (kds.map (·.2))
theorem KR.nil : KR K Z H ([] : List (κ × V)) [] := ⟨rfl, .nil⟩
theorem KR.cases : ∀ {kvs : List (κ × V)} {kds : List (κ × D)}, KR K Z H kvs kds → (kvs = [] ∧ kds = []) ∨ ∃ k v d r s, kvs = (k, v) :: r ∧ kds = (k, d) :: s ∧ Rp K Z H v d ∧ KR K Z H r s
  | [], [], _ => .inl ⟨rfl, rfl⟩
  | [], _ :: _, h => by simp [KR] at h
  | _ :: _, [], h => by simp [KR] at h
  | (k, v) :: r, (k', d) :: s, h => by
    obtain ⟨h1, h2⟩ := h
    simp only [List.map_cons, List.cons.injEq] at h1
    cases h1.1
    simp only [List.map_cons] at h2
    cases h2 with
    | cons a b => exact .inr ⟨k, v, d, r, s, rfl, rfl, a, h1.2, b⟩
theorem KR.cons {k : κ} {v : V} {d : D} {r : List (κ × V)} {s : List (κ × D)} (h : Rp K Z H v d) (t : KR K Z H r s) : KR K Z H ((k, v) :: r) ((k, d) :: s) := ⟨by simp [t.1], .cons h t.2⟩
theorem KR.len {kvs : List (κ × V)} {kds : List (κ × D)} (h : KR K Z H kvs kds) : kvs.length = kds.length := by
  have := congrArg List.length h.1
  simpa using this
theorem KR.val : ∀ {kvs : List (κ × V)} {kds : List (κ × D)} (k : κ), KR K Z H kvs kds → (valV kvs k = none ∧ valD kds k = none) ∨ ∃ v d, valV kvs k = some v ∧ valD kds k = some d ∧ Rp K Z H v d := by
  intro kvs
  induction kvs with
  | nil =>
    intro kds k h
    rcases h.cases with ⟨_, rfl⟩ | ⟨_, _, _, _, _, e, _⟩
    · exact .inl ⟨rfl, rfl⟩
    · cases e
  | cons p r ih =>
    intro kds k h
    rcases h.cases with ⟨e, _⟩ | ⟨k', v, d, r', s, e, rfl, h1, h2⟩
    · cases e
    · cases e
      by_cases c : k' = k
      · subst c
        exact .inr ⟨v, d, by simp [valV], by simp [valD], h1⟩
      · have e1 : valV ((k', v) :: r) k = valV r k := by simp [valV, List.find?_cons, c]
        have e2 : valD ((k', d) :: s) k = valD s k := by simp [valD, List.find?_cons, c]
        rw [e1, e2]
        exact ih k h2
theorem KR.any {kvs : List (κ × V)} {kds : List (κ × D)} (h : KR K Z H kvs kds) (k : κ) : (kvs.any fun kv => decide (kv.1 = k)) = kds.any fun kv => decide (kv.1 = k) := by
  have e1 : (kvs.any fun kv => decide (kv.1 = k)) = (kvs.map (·.1)).any fun x => decide (x = k) := by rw [List.any_map]; rfl
  have e2 : (kds.any fun kv => decide (kv.1 = k)) = (kds.map (·.1)).any fun x => decide (x = k) := by rw [List.any_map]; rfl
  rw [e1, e2, h.1]
theorem KR.rep {v : V} {d : D} (k : κ) (hv : Rp K Z H v d) : ∀ {kvs : List (κ × V)} {kds : List (κ × D)}, KR K Z H kvs kds →
    KR K Z H (kvs.map fun kv => if kv.1 = k then (kv.1, v) else kv) (kds.map fun kv => if kv.1 = k then (kv.1, d) else kv) := by
  intro kvs
  induction kvs with
  | nil =>
    intro kds h
    rcases h.cases with ⟨_, rfl⟩ | ⟨_, _, _, _, _, e, _⟩
    · exact .nil
    · cases e
  | cons p r ih =>
    intro kds h
    rcases h.cases with ⟨e, _⟩ | ⟨k', v', d', r', s, e, rfl, h1, h2⟩
    · cases e
    · cases e
      simp only [List.map_cons]
      by_cases c : k' = k
      · rw [if_pos c, if_pos c]; exact .cons hv (ih h2)
      · rw [if_neg c, if_neg c]; exact .cons h1 (ih h2)
theorem KR.put {kvs : List (κ × V)} {kds : List (κ × D)} {v : V} {d : D} (h : KR K Z H kvs kds) (k : κ) (hv : Rp K Z H v d) : KR K Z H (putK kvs k v) (putD kds k d) := by
  unfold putK putD
  rw [h.any k]
  split
  · exact h.rep k hv
  · refine ⟨by simp [h.1], ?_⟩
    rw [List.map_append, List.map_append]
    exact h.2.append (.cons hv .nil)
theorem key_kV {v : V} {d : D} {k : Key} (h : Rp K Z H v d) (e : keyOf d = some k) : v = kV k := by
  cases d with
  | int i => cases e; exact h.intE
  | str x => cases e; exact h.strE
  | _ => simp [keyOf] at e
theorem keys_kV : ∀ {vs : List V} {ds : List D} {ks : List Key}, Rps K Z H vs ds → keysOf ds = some ks → vs = ks.map kV
  | _, _, _, .nil, e => by cases e; rfl
  | _, _, _, .cons (d := d) (ds := ds) h t, e => by
    simp only [keysOf] at e
    cases q : keyOf d with
    | none => rw [q] at e; cases e
    | some k =>
      rw [q] at e
      cases q2 : keysOf ds with
      | none => rw [q2] at e; cases e
      | some ks =>
        rw [q2] at e
        cases e
        simp [key_kV h q, keys_kV t q2]
/-- what a dict holds at a key, by data -/
def look : D → D → Option (Option D)
  | .dK kds, k => (keyOf k).map fun k => valD kds k
  | .dT kds, .tup ks => (keysOf ks).map fun k => valD kds k
  | _, _ => none
/-- by the heap -/
theorem look_get {x y : V} {d k : D} {o : Option D} (hd : Kf K Z H x d) (hk : Rp K Z' H y k) (e : look d k = some o) : ∃ a r, x = .ref a ∧ DGet H a y r ∧ IsD H a ∧ ((r = none ∧ o = none) ∨ ∃ v d', r = some v ∧ o = some d' ∧ Rp K Z H v d') := by
  cases d with
  | dK kds =>
    obtain ⟨a, kvs, rfl, ha, e1, r⟩ := hd
    simp only [look] at e
    cases q : keyOf k with
    | none => rw [q] at e; cases e
    | some k' =>
      rw [q] at e
      cases e
      cases key_kV hk q
      refine ⟨a, _, rfl, .inl ⟨kvs, k', ha, rfl, rfl⟩, .inl ⟨kvs, ha⟩, ?_⟩
      exact KR.val k' (⟨e1, r⟩ : KR K Z H kvs kds)
  | dT kds =>
    obtain ⟨a, kvs, rfl, ha, e1, r⟩ := hd
    cases k with
    | tup ks =>
      simp only [look] at e
      cases q : keysOf ks with
      | none => rw [q] at e; cases e
      | some k' =>
        rw [q] at e
        cases e
        cases hk with
        | tup hb rb =>
          cases keys_kV rb q
          refine ⟨a, _, rfl, .t ha hb, .inr ⟨kvs, .inl ha⟩, ?_⟩
          exact KR.val k' (⟨e1, r⟩ : KR K Z H kvs kds)
    | _ => simp [look] at e
  | _ => simp [look] at e
theorem Kf.rp {v : V} {d : D} (h : Kf K Z H v d) (i : imm d = true) : Rp K Z H v d := by
  cases d <;> first | exact h | simp at i
theorem look_key {d k : D} {o : Option D} (e : look d k = some o) : ∀ {y : V}, Kf K Z H y k → Rp K Z H y k := by
  intro y h
  cases k with
  | int i => exact h
  | str x => exact h
  | tup x => exact h
  | _ => cases d <;> simp [look, keyOf] at e
end
section
variable {X : Cx} {e : Expr}
theorem PE.or {t u : TE} (h : PE X e t) (h' : PE X e u) : PE X e fun σ H Q => t σ H Q ∨ u σ H Q := ⟨fun pins s σ H Q I q => q.elim (h.run pins s σ H Q I) (h'.run pins s σ H Q I)⟩
theorem PC.or {op : CmpOp} {a b : Expr} {t u : TE} (h : PC X op a b t) (h' : PC X op a b u) : PC X op a b fun σ H Q => t σ H Q ∨ u σ H Q := ⟨fun pins s σ H Q I q => q.elim (h.run pins s σ H Q I) (h'.run pins s σ H Q I)⟩
end
section
variable {K : PySem.W.Frag} {Z Z' : Addr → Prop} {H H' : Hp} {σ : L2.St}
theorem op_split {g gA gB : List D → Option (D × Nat)} {fa : Fa} (hg : ∀ ds, g ds = gA ds ∨ g ds = gB ds) {Q : VK} (q : eOf K (mOp g fa) σ H Q) : eOf K (mOp gA fa) σ H Q ∨ eOf K (mOp gB fa) σ H Q := by
  obtain ⟨Z, E, R, s, o, E', e, q⟩ := q
  have e0 := e
  unfold mOp at e
  cases e1 : fa E with
  | none => rw [e1] at e; cases e
  | some p =>
    rw [e1] at e
    simp only [Option.bind_some] at e
    cases e2 : rdL p.2 p.1 with
    | none => rw [e2] at e; cases e
    | some ds =>
      rw [e2] at e
      simp only [Option.bind_some] at e
      rcases hg ds with h | h
      · rw [h] at e
        refine .inl ⟨Z, E, R, s, o, E', ?_, q⟩
        unfold mOp
        rw [e1]; simp only [Option.bind_some, e2]; exact e
      · rw [h] at e
        refine .inr ⟨Z, E, R, s, o, E', ?_, q⟩
        unfold mOp
        rw [e1]; simp only [Option.bind_some, e2]; exact e
/-- d[k] -/
def gDg : List D → Option (D × Nat)
  | [d, k] => (look d k).bind fun o => o.map fun v => (v, 0)
  | _ => none
def rDg : R2 := fun x y H Q => ∃ a v, x = .ref a ∧ DGet H a y (some v) ∧ Q v H
theorem al_dg : AL K (two rDg) gDg := by
  intro Z H vs ds d n Q hz k e q
  unfold gDg at e
  split at e
  · rename_i d0 k0
    cases e1 : look d0 k0 with
    | none => rw [e1] at e; cases e
    | some o =>
      rw [e1] at e
      simp only [Option.bind_some] at e
      cases o with
      | none => cases e
      | some v0 =>
        cases e
        obtain ⟨x, y, rfl, h1, h2⟩ := k.two
        obtain ⟨a, r, rfl, g, _, c⟩ := look_get h1 (look_key e1 h2) e1
        rcases c with ⟨_, c⟩ | ⟨v, d', rfl, c, rv⟩
        · cases c
        · cases c
          exact ⟨_, _, rfl, a, v, rfl, g, q v H [] (.refl _) ⟨rfl, rv⟩ List.nodup_nil fun a m => by simp at m⟩
  · cases e
def gIxd : List D → Option (D × Nat) := fun ds => match ds with
  | .dK _ :: _ => gDg ds
  | .dT _ :: _ => gDg ds
  | _ => gIx ds
/-- d.get(k, x) -/
def gGet2 : List D → Option (D × Nat)
  | [d, k, x] => if imm x = true then (look d k).map fun o => (o.getD x, 0) else none
  | _ => none
def rGet2 : List V → Hp → VK → Prop := fun vs H Q => ∃ x y z a o, vs = [x, y, z] ∧ x = .ref a ∧ DGet H a y o ∧ Q (o.getD z) H
theorem al_get2 : AL K rGet2 gGet2 := by
  intro Z H vs ds d n Q hz k e q
  unfold gGet2 at e
  split at e
  · rename_i d0 k0 x0
    split at e
    · rename_i hx
      cases e1 : look d0 k0 with
      | none => rw [e1] at e; cases e
      | some o =>
        rw [e1] at e
        cases e
        obtain ⟨x, y, z, rfl, h1, h2, h3⟩ := k.three
        obtain ⟨a, r, rfl, g, _, c⟩ := look_get h1 (look_key e1 h2) e1
        refine ⟨_, _, _, a, r, rfl, rfl, g, ?_⟩
        rcases c with ⟨rfl, rfl⟩ | ⟨v, d', rfl, rfl, rv⟩
        · exact q _ H [] (.refl _) ⟨rfl, h3.rp hx⟩ List.nodup_nil fun a m => by simp at m
        · exact q _ H [] (.refl _) ⟨rfl, rv⟩ List.nodup_nil fun a m => by simp at m
    · cases e
  · cases e
def mChk (P : D → Bool) (f : Fe) : Fe := fun E => (f E).bind fun p => (rd p.2 p.1).bind fun d => if P d = true then some p else none
theorem mChk_of {P : D → Bool} {f : Fe} {Q : VK} (q : eOf K (mChk P f) σ H Q) : eOf K f σ H fun v H1 => (∃ d, Rp K (fun _ => True) H1 v d ∧ P d = true) ∧ Q v H1 := by
  obtain ⟨Z, E, R, s, o, E', e, q⟩ := q
  unfold mChk at e
  cases e1 : f E with
  | none => rw [e1] at e; cases e
  | some p =>
    rw [e1] at e
    simp only [Option.bind_some] at e
    cases e2 : rd p.2 p.1 with
    | none => rw [e2] at e; cases e
    | some d =>
      rw [e2] at e
      simp only [Option.bind_some] at e
      split at e
      · rename_i hp
        cases e
        exact ⟨Z, E, R, s, o, E', e1, fun v Z' H' R' rs s' t' o' f' => ⟨⟨d, s'.read o' e2, hp⟩, q v Z' H' R' rs s' t' o' f'⟩⟩
      · cases e
theorem isDct_isD {v : V} {d : D} (h : Rp K Z H v d) (e : isDct d = true) : ∃ a, v = .ref a ∧ IsD H a := by
  cases h with
  | dK z h e2 r => exact ⟨_, rfl, .inl ⟨_, h⟩⟩
  | dT z h e2 r => exact ⟨_, rfl, .inr ⟨_, .inl h⟩⟩
  | _ => simp [isDct] at e
/-- x in a list, a tuple, a dict -/
def gIn (neg : Bool) : List D → Option (D × Nat)
  | [x, .lst ds] => if dat 64 x = true ∧ dat 64 (.lst ds) = true then some (.bl ((ds.any fun z => deq z x) ^^ neg), 9) else none
  | [x, .tup ds] => if dat 64 x = true ∧ dat 64 (.tup ds) = true then some (.bl ((ds.any fun z => deq z x) ^^ neg), 9) else none
  | _ => none
def gInD (neg : Bool) : List D → Option (D × Nat)
  | [k, d] => (look d k).map fun o => (.bl (o.isSome ^^ neg), 9)
  | _ => none
def rInT (K : PySem.W.Frag) (neg : Bool) : R2 := fun x y H Q => ∃ d ds, Dp K H x d ∧ Dp K H y (.tuple ds) ∧ SeqAt.shaped d = true ∧ SeqAt.shaped (.tuple ds) = true ∧ Q (.bl ((ds.any fun z => PyData.eqv z d) ^^ neg)) H
def rInL (K : PySem.W.Frag) (neg : Bool) : R2 := fun x y H Q => ∃ d ds, Dp K H x d ∧ Dp K H y (.list ds) ∧ SeqAt.shaped d = true ∧ SeqAt.shaped (.list ds) = true ∧ Q (.bl ((ds.any fun z => PyData.eqv z d) ^^ neg)) H
theorem any_py (ds : List D) (x : D) : ((pys ds).any fun z => PyData.eqv z (py x)) = ds.any fun z => deq z x := by
  rw [pys_map, List.any_map]; rfl
theorem al_in {neg : Bool} : AL K (two fun x y H Q => rInL K neg x y H Q ∨ rInT K neg x y H Q) (gIn neg) := by
  intro Z H vs ds d n Q hz k e q
  unfold gIn at e
  split at e
  · split at e
    · rename_i h
      cases e
      obtain ⟨x, y, rfl, h1, h2⟩ := k.two
      have r1 : Rp K (fun _ => True) H x _ := dat_rp h1 h.1
      have r2 : Rp K (fun _ => True) H y _ := dat_rp h2 h.2
      refine ⟨x, y, rfl, .inl ⟨_, _, dat_dp 64 x _ h.1 r1, dat_dp 64 y _ h.2 r2, dat_shaped h.1, dat_shaped h.2, ?_⟩⟩
      rw [any_py]
      exact fin_imm (Z := Z) (.bl _) (by simp) q
    · cases e
  · split at e
    · rename_i h
      cases e
      obtain ⟨x, y, rfl, h1, h2⟩ := k.two
      have r1 : Rp K (fun _ => True) H x _ := dat_rp h1 h.1
      have r2 : Rp K (fun _ => True) H y _ := dat_rp h2 h.2
      refine ⟨x, y, rfl, .inr ⟨_, _, dat_dp 64 x _ h.1 r1, dat_dp 64 y _ h.2 r2, dat_shaped h.1, dat_shaped h.2, ?_⟩⟩
      rw [any_py]
      exact fin_imm (Z := Z) (.bl _) (by simp) q
    · cases e
  · cases e
where
  dat_rp {Z : Addr → Prop} {H : Hp} {v : V} {d : D} (h : Kf K Z H v d) (_ : dat 64 d = true) : Rp K (fun _ => True) H v d := by
    have p : Pers Z H (fun _ => True) H := ⟨fun _ _ => trivial, fun _ _ _ h => h, fun _ _ h _ => h⟩
    cases d with
    | lst ds => obtain ⟨a, vs, rfl, ha, r⟩ := h; exact .lst trivial ha (r.pers p)
    | dK ds => obtain ⟨a, vs, rfl, ha, e, r⟩ := h; exact .dK trivial ha e (r.pers p)
    | dT ds => obtain ⟨a, vs, rfl, ha, e, r⟩ := h; exact .dT trivial ha e (r.pers p)
    | set xs => obtain ⟨a, T, m, rfl, ha, e1, e2, e3⟩ := h; exact .set trivial ha e1 e2 e3
    | non => exact Rp.pers p h
    | bl _ => exact Rp.pers p h
    | int _ => exact Rp.pers p h
    | str _ => exact Rp.pers p h
    | ty _ => exact Rp.pers p h
    | tup _ => exact Rp.pers p h
    | con _ => exact Rp.pers p h
    | scr _ => exact Rp.pers p h
theorem al_inD {neg : Bool} : AL K (two fun x y H Q => ∃ a o, y = .ref a ∧ DGet H a x o ∧ Q (.bl (o.isSome ^^ neg)) H) (gInD neg) := by
  intro Z H vs ds d n Q hz k e q
  unfold gInD at e
  split at e
  · rename_i k0 d0
    cases e1 : look d0 k0 with
    | none => rw [e1] at e; cases e
    | some o =>
      rw [e1] at e
      cases e
      obtain ⟨y, x, rfl, h2, h1⟩ := k.two
      obtain ⟨a, r, rfl, g, _, c⟩ := look_get h1 (look_key e1 h2) e1
      refine ⟨_, _, rfl, a, r, rfl, g, ?_⟩
      have e2 : r.isSome = o.isSome := by
        rcases c with ⟨rfl, rfl⟩ | ⟨v, d', rfl, rfl, _⟩ <;> rfl
      rw [e2]
      exact fin_imm (Z := Z) (.bl _) (by simp) q
  · cases e
def gInA (neg : Bool) : List D → Option (D × Nat) := fun ds => match ds with
  | [_, .dK _] => gInD neg ds
  | [_, .dT _] => gInD neg ds
  | _ => gIn neg ds
end
section
variable {X : Cx} {a b c e : Expr} {fa fb fc fe : Fe} {pos apos cpos : PySem.Pos}
theorem op_inT (hu : X.A.units + 65 < cLine) : OpR X (compareOp .In) (rInT X.K false) := by
  intro pins s σ H x y v u Q I rx ry h
  obtain ⟨d, ds, hd, he, sd, se, q⟩ := h
  obtain ⟨as, r1⟩ := Dp.reads I d x v hd rx
  obtain ⟨bs, r2⟩ := Dp.reads I (.tuple ds) y u he ry
  exact SeqAt.in_tuple_reads r2 r1 (SeqAt.canLay_of_shaped se) (SeqAt.canLay_of_shaped sd) (PyProof.Rows.room_in_shaped sd hu) ⟨.bl _, H, I, rfl, by rw [Bool.xor_false] at q; exact q⟩
theorem op_notInT (hu : X.A.units + 65 < cLine) : OpR X (compareOp .NotIn) (rInT X.K true) := by
  intro pins s σ H x y v u Q I rx ry h
  obtain ⟨d, ds, hd, he, sd, se, q⟩ := h
  obtain ⟨as, r1⟩ := Dp.reads I d x v hd rx
  obtain ⟨bs, r2⟩ := Dp.reads I (.tuple ds) y u he ry
  exact SeqAt.notIn_tuple_reads r2 r1 (SeqAt.canLay_of_shaped se) (SeqAt.canLay_of_shaped sd) (PyProof.Rows.room_in_shaped sd hu) ⟨.bl _, H, I, rfl, by rw [Bool.xor_true] at q; exact q⟩
def mIn (a b : Fe) : Fe := mOp (gInA false) (mA2 a b)
def mNotIn (a b : Fe) : Fe := mOp (gInA true) (mA2 a b)
theorem in_split (neg : Bool) (ds : List D) : gInA neg ds = gIn neg ds ∨ gInA neg ds = gInD neg ds := by
  unfold gInA
  split
  · exact .inr rfl
  · exact .inr rfl
  · exact .inl rfl
theorem ac_in (hu : X.A.units + 65 < cLine) (ha : AE X a fa) (hb : AE X b fb) : AC X .In a b (mIn fa fb) :=
  PC.mono (PC.or (pc_op ((op_inD hu).or (op_inT hu)) ha hb) (pc_din (Nat.lt_of_le_of_lt (Nat.add_le_add_left (by decide) _) hu) ha hb)) fun σ H Q q => by
    rcases op_split (in_split false) q with q | q
    · refine .inl (tOp_op (r := fun x y H Q => rInD X.K x y H Q ∨ rInT X.K false x y H Q) ?_ q)
      intro Z H vs ds d n Q hz k e q
      obtain ⟨x, y, rfl, h | h⟩ := al_in Z H vs ds d n Q hz k e q
      · refine ⟨x, y, rfl, .inl ?_⟩
        obtain ⟨d, ds, h1, h2, h3, h4, h5⟩ := h
        exact ⟨d, ds, h1, h2, h3, h4, by rw [Bool.xor_false] at h5; exact h5⟩
      · exact ⟨x, y, rfl, .inr h⟩
    · refine .inr (tOp_op (r := fun x y H Q => ∃ a o, y = .ref a ∧ DGet H a x o ∧ Q (.bl o.isSome) H) ?_ q)
      intro Z H vs ds d n Q hz k e q
      obtain ⟨x, y, rfl, a, o, h1, h2, h3⟩ := al_inD Z H vs ds d n Q hz k e q
      exact ⟨x, y, rfl, a, o, h1, h2, by rw [Bool.xor_false] at h3; exact h3⟩
theorem ac_notIn (hu : X.A.units + 65 < cLine) (ha : AE X a fa) (hb : AE X b fb) : AC X .NotIn a b (mNotIn fa fb) :=
  PC.mono (PC.or (pc_op ((op_notInD hu).or (op_notInT hu)) ha hb) (pc_dnotin (Nat.lt_of_le_of_lt (Nat.add_le_add_left (by decide) _) hu) ha hb)) fun σ H Q q => by
    rcases op_split (in_split true) q with q | q
    · refine .inl (tOp_op (r := fun x y H Q => rNotInD X.K x y H Q ∨ rInT X.K true x y H Q) ?_ q)
      intro Z H vs ds d n Q hz k e q
      obtain ⟨x, y, rfl, h | h⟩ := al_in Z H vs ds d n Q hz k e q
      · refine ⟨x, y, rfl, .inl ?_⟩
        obtain ⟨d, ds, h1, h2, h3, h4, h5⟩ := h
        exact ⟨d, ds, h1, h2, h3, h4, by rw [Bool.xor_true] at h5; exact h5⟩
      · exact ⟨x, y, rfl, .inr h⟩
    · refine .inr (tOp_op (r := fun x y H Q => ∃ a o, y = .ref a ∧ DGet H a x o ∧ Q (.bl (!o.isSome)) H) ?_ q)
      intro Z H vs ds d n Q hz k e q
      obtain ⟨x, y, rfl, a, o, h1, h2, h3⟩ := al_inD Z H vs ds d n Q hz k e q
      exact ⟨x, y, rfl, a, o, h1, h2, by rw [Bool.xor_true] at h3; exact h3⟩
/-- x[i], lists, tuples, texts and dicts -/
def mIxd (a b : Fe) : Fe := mOp gIxd (mA2 a b)
theorem ae_ixd (hu : X.A.units + 1 < cLine) (ha : AE X a fa) (hb : AE X b fb) (hs : PlainIx b := by exact fun _ _ => rfl) (hs2 : NoSl b := by exact fun _ _ => rfl) : AE X (.Subscript a b pos) (mIxd fa fb) :=
  PE.mono (PE.or (pe_ix ix_seq ha hb hs) (pe_dget hu ha hb hs2)) fun σ H Q q => by
    have sp : ∀ ds, gIxd ds = gIx ds ∨ gIxd ds = gDg ds := fun ds => by
      unfold gIxd
      split
      · exact .inr rfl
      · exact .inr rfl
      · exact .inl rfl
    rcases op_split sp q with q | q
    · exact .inl (tOp_op al_ix q)
    · exact .inr (tOp_op al_dg q)
def mGet2 (o k x : Fe) : Fe := mOp gGet2 (mAc (mChk isDct o) (mAc k (mAc x mA0)))
theorem ae_get2 (hu : X.A.units + 1 < cLine) (ho : AE X a fa) (he : AE X b fb) (hf : AE X c fc) (m : M2 X a "get" apos b c cpos) : AE X (.Call (.Attribute a "get" apos) [b, c] [] cpos) (mGet2 fa fb fc) :=
  PE.mono (pe_dget2 hu ho he hf m) fun σ H Q q => by
    refine eOf_imp (fun x H1 q1 => ?_) (mChk_of (aOf_c (op_of al_get2 q)))
    obtain ⟨⟨d, r, i⟩, q1⟩ := q1
    obtain ⟨a, rfl, hd⟩ := isDct_isD r i
    refine ⟨a, rfl, hd, ?_⟩
    refine eOf_imp (fun y H2 q2 => ?_) (aOf_c q1)
    refine eOf_imp (fun z H3 q3 => ?_) (aOf_c q2)
    obtain ⟨x', y', z', a', o, e, e2, g, q⟩ := aOf_0 q3
    cases e
    cases e2
    exact ⟨o, g, q⟩
end
end Zk
namespace Zk
open PySem PySem.Spec PyProof.Rows L2

section
variable {K : PySem.W.Frag} {Z Z' Zf Z0 : Addr → Prop} {H H' H0 : Hp} {σ : L2.St} {E E' : Ev} {R R' R0 : Rs}
/-- the thing of slot i is changed at its root a -/
theorem S.write (s : S K Z H σ E R) (t0 : Step Z0 H0 (ow R0) Z H (ow R)) {i : Nat} {a : Addr} {o' : HO} {d' : D} {n' : Nat} {rs' ts : List Addr} (hi : i < E.length) (hσ : σ[i]? = some (some (.ref a))) (ha : a ∈ R i)
    (new : Own K Zf (upd H a o') n' (.ref a) d' rs') (hz : ∀ b, Z b → Zf b) (hzn : ∀ b, Zf b → Z b ∨ b ∈ R i ∨ b ∈ ts) (sub : ∀ b ∈ rs', b ∈ R i ∨ b ∈ ts) (nd : rs'.Nodup)
    (tno : ∀ b ∈ ts, ¬ ow R b) (tth : ∀ b ∈ ts, H b ≠ none) (tof : ∀ b ∈ ts, ow R0 b ∨ H0 b = none) :
    S K Zf (upd H a o') σ (E.set i (some (d', n'))) (put R i rs') ∧ Step Z0 H0 (ow R0) Zf (upd H a o') (ow (put R i rs')) := by
  have oa : ow R a := ⟨i, ha⟩
  have p : Pers Z H Zf (upd H a o') := ⟨hz, fun b o z e => by
    have ne : b ≠ a := fun e2 => (s.owns oa).2 (by rw [← e2]; exact z)
    rw [upd_ne ne]; exact e, fun b o e n => by
    have ne : b ≠ a := fun e2 => n (by have := (s.owns oa).1; rw [← e2, e] at this; exact this)
    rw [upd_ne ne]; exact e⟩
  have no : ∀ b ∈ rs', ∀ j, j ≠ i → b ∉ R j := fun b m j hj mj => by
    rcases sub b m with h | h
    · exact hj (s.dj j i b mj h)
    · exact tno b h ⟨j, mj⟩
  refine ⟨⟨by simp [s.len], fun j d n e => ?_, fun j e => ?_, fun j => ?_, fun j k b h1 h2 => ?_, fun b z => ?_⟩, ⟨fun b z => hz b (t0.zz b z), fun b z => ?_, fun b o e n => ?_, fun b h => ?_, fun b h e => ?_⟩⟩
  · by_cases q : j = i
    · subst q
      rw [eg_set_same hi] at e
      cases e
      exact ⟨_, hσ, by rw [put_same]; exact new⟩
    · rw [eg_set_ne q] at e
      obtain ⟨v, e1, o1⟩ := s.slot j d n e
      refine ⟨v, e1, ?_⟩
      rw [put_ne q]
      refine o1.keep p fun b m => ⟨upd_ne fun e2 => q (s.dj j i b m (e2 ▸ ha)), fun z => ?_⟩
      rcases hzn b z with z | z | z
      · exact (o1.mut b m).2 z
      · exact q (s.dj j i b m z)
      · exact tno b z ⟨j, m⟩
  · by_cases q : j = i
    · subst q; rw [eg_set_same hi] at e; cases e
    · rw [eg_set_ne q] at e; rw [put_ne q]; exact s.emp j e
  · by_cases q : j = i
    · subst q; rw [put_same]; exact nd
    · rw [put_ne q]; exact s.nd j
  · by_cases q : j = i
    · subst q
      rw [put_same] at h1
      by_cases q2 : k = j
      · exact q2.symm
      · rw [put_ne q2] at h2; exact absurd h2 (no b h1 k q2)
    · rw [put_ne q] at h1
      by_cases q2 : k = i
      · subst q2; rw [put_same] at h2; exact absurd h1 (no b h2 j q)
      · rw [put_ne q2] at h2; exact s.dj j k b h1 h2
  · by_cases c : b = a
    · rw [c, upd_same]; simp
    · rw [upd_ne c]
      rcases hzn b z with z | z | z
      · exact s.zd b z
      · exact s.there ⟨i, z⟩
      · exact tth b z
  · rcases hzn b z with z | z | z
    · exact t0.zn b z
    · rcases t0.on b ⟨i, z⟩ with h | h
      · exact .inr (.inr h)
      · exact .inr (.inl h)
    · rcases tof b z with h | h
      · exact .inr (.inr h)
      · exact .inr (.inl h)
  · have c : b ≠ a := fun c => by
      subst c
      rcases t0.on b oa with h | h
      · exact n h
      · rw [e] at h; cases h
    rw [upd_ne c]
    exact t0.hh b o e n
  · rcases ow_put h with h | h
    · rcases sub b h with h | h
      · exact t0.on b ⟨i, h⟩
      · exact tof b h
    · exact t0.on b h
  · by_cases c : b = a
    · rw [c, upd_same] at e; cases e
    · rw [upd_ne c] at e; exact t0.dm b h e

theorem All3.append {α β γ : Type} {P : α → β → γ → Prop} : ∀ {as as' : List α} {bs bs' : List β} {cs cs' : List γ}, All3 P as bs cs → All3 P as' bs' cs' → All3 P (as ++ as') (bs ++ bs') (cs ++ cs')
  | _, _, _, _, _, _, .nil, r => r
  | _, _, _, _, _, _, .cons h t, r => .cons h (All3.append t r)
theorem All3.len {α β γ : Type} {P : α → β → γ → Prop} {as : List α} {bs : List β} {cs : List γ} (h : All3 P as bs cs) : as.length = bs.length ∧ cs.length = bs.length := by
  induction h with
  | nil => exact ⟨rfl, rfl⟩
  | cons _ _ ih => simp [ih]
theorem All3.set {α β γ : Type} {P : α → β → γ → Prop} {a : α} {b : β} {c : γ} (h : P a b c) : ∀ {as : List α} {bs : List β} {cs : List γ} (n : Nat), All3 P as bs cs → All3 P (as.set n a) (bs.set n b) (cs.set n c)
  | _, _, _, _, .nil => by simp; exact .nil
  | _, _, _, 0, .cons _ t => .cons h t
  | _, _, _, n + 1, .cons g t => .cons g (All3.set h n t)
theorem All3.erase {α β γ : Type} {P : α → β → γ → Prop} : ∀ {as : List α} {bs : List β} {cs : List γ} (n : Nat), All3 P as bs cs → All3 P (as.eraseIdx n) (bs.eraseIdx n) (cs.eraseIdx n)
  | _, _, _, _, .nil => by simp; exact .nil
  | _, _, _, 0, .cons _ t => t
  | _, _, _, n + 1, .cons g t => .cons g (All3.erase n t)
theorem All3.get {α β γ : Type} {P : α → β → γ → Prop} : ∀ {as : List α} {bs : List β} {cs : List γ}, All3 P as bs cs → ∀ {i : Nat} {b : β}, bs[i]? = some b → ∃ a c, as[i]? = some a ∧ cs[i]? = some c ∧ P a b c
  | _, _, _, .nil, i, b, e => by simp at e
  | _, _, _, .cons h t, 0, b, e => by simp at e; subst e; exact ⟨_, _, rfl, rfl, h⟩
  | _, _, _, .cons h t, i + 1, b, e => by
    obtain ⟨x, y, h1, h2, h3⟩ := All3.get t (i := i) (b := b) (by simpa using e)
    exact ⟨x, y, by simpa using h1, by simpa using h2, h3⟩
theorem All3.rev {α β γ : Type} {P : α → β → γ → Prop} : ∀ {as : List α} {bs : List β} {cs : List γ}, All3 P as bs cs → All3 P as.reverse bs.reverse cs.reverse
  | _, _, _, .nil => by simp; exact .nil
  | _, _, _, .cons h t => by simp only [List.reverse_cons]; exact All3.append (All3.rev t) (.cons h .nil)
theorem nodup_set_flat : ∀ {rss : List (List Addr)} {rs : List Addr} (n : Nat), rss.flatten.Nodup → rs.Nodup → (∀ a ∈ rs, a ∉ rss.flatten) → (rss.set n rs).flatten.Nodup
  | [], rs, n, _, _, _ => by simp
  | r :: rss, rs, 0, h, h2, h3 => by
    rw [List.flatten_cons, List.nodup_append] at h
    rw [List.set_cons_zero, List.flatten_cons, List.nodup_append]
    exact ⟨h2, h.2.1, fun a m b m2 e => h3 a m (by rw [List.flatten_cons, List.mem_append]; exact .inr (e ▸ m2))⟩
  | r :: rss, rs, n + 1, h, h2, h3 => by
    rw [List.flatten_cons, List.nodup_append] at h
    rw [List.set_cons_succ, List.flatten_cons, List.nodup_append]
    refine ⟨h.1, nodup_set_flat n h.2.1 h2 fun a m z => h3 a m (by rw [List.flatten_cons, List.mem_append]; exact .inr z), fun a m b m2 e => ?_⟩
    subst e
    rcases mem_set_flat n m2 with z | z
    · exact h.2.2 a m a z rfl
    · exact h3 a z (by rw [List.flatten_cons, List.mem_append]; exact .inl m)
where
  mem_set_flat : ∀ {rss : List (List Addr)} {rs : List Addr} {a : Addr} (n : Nat), a ∈ (rss.set n rs).flatten → a ∈ rss.flatten ∨ a ∈ rs
    | [], rs, a, n, h => by simp at h
    | r :: rss, rs, a, 0, h => by
      rw [List.set_cons_zero, List.flatten_cons, List.mem_append] at h
      rw [List.flatten_cons, List.mem_append]
      rcases h with h | h
      · exact .inr h
      · exact .inl (.inr h)
    | r :: rss, rs, a, n + 1, h => by
      rw [List.set_cons_succ, List.flatten_cons, List.mem_append] at h
      rw [List.flatten_cons, List.mem_append]
      rcases h with h | h
      · exact .inl (.inl h)
      · rcases mem_set_flat n h with h | h
        · exact .inl (.inr h)
        · exact .inr h
theorem flat_erase : ∀ {rss : List (List Addr)} (n : Nat), rss.flatten.Nodup → (rss.eraseIdx n).flatten.Nodup ∧ ∀ a ∈ (rss.eraseIdx n).flatten, a ∈ rss.flatten
  | [], n, h => by simp
  | r :: rss, 0, h => by
    rw [List.flatten_cons, List.nodup_append] at h
    exact ⟨h.2.1, fun a m => by rw [List.flatten_cons, List.mem_append]; exact .inr m⟩
  | r :: rss, n + 1, h => by
    rw [List.flatten_cons, List.nodup_append] at h
    obtain ⟨h1, h2⟩ := flat_erase n h.2.1
    rw [List.eraseIdx_cons_succ, List.flatten_cons]
    refine ⟨List.nodup_append.mpr ⟨h.1, h1, fun a m b m2 => h.2.2 a m b (h2 b m2)⟩, fun a m => ?_⟩
    rw [List.mem_append] at m
    rw [List.flatten_cons, List.mem_append]
    rcases m with m | m
    · exact .inl m
    · exact .inr (h2 a m)

/-- the depth of a list behind a thing came into it -/
def upl (n : Nat) (d dv : D) (nv : Nat) : Nat := if imm dv = true then n else if flat d = true then nv + 1 else if n = nv + 1 then n else 1
/-- all within a list, and a thing that comes into it, at one depth -/
theorem level {n : Nat} {vs : List V} {ds : List D} {rss : List (List Addr)} {v : V} {dv : D} {nv : Nat} {rv : List Addr} {d : D} (hd : flat d = true → imms ds = true) (h : All3 (Own K Z H n) vs ds rss) (hv : Own K Z H nv v dv rv) :
    ∃ m Zf rss' rv', upl (n + 1) d dv nv = m + 1 ∧ All3 (Own K Zf H m) vs ds rss' ∧ Own K Zf H m v dv rv' ∧ (∀ b, Z b → Zf b) ∧ (∀ b, Zf b → Z b ∨ b ∈ rss.flatten ∨ b ∈ rv) ∧
      ((rss' = rss ∧ rv' = rv ∧ Zf = Z) ∨ (rss'.flatten = [] ∧ rv' = [] ∧ Zf = fun b => Z b ∨ b ∈ rss.flatten ∨ b ∈ rv) ∨ (rss'.flatten = [] ∧ rv' = rv ∧ Zf = Z)) := by
  unfold upl
  split
  · rename_i i
    obtain ⟨rfl, r⟩ := hv.imm i
    exact ⟨n, Z, rss, [], rfl, h, .ofImm r i, fun _ h => h, fun _ h => .inl h, .inl ⟨rfl, rfl, rfl⟩⟩
  · split
    · rename_i f
      obtain ⟨r, e⟩ := h.immRps (hd f)
      exact ⟨nv, Z, _, rv, rfl, All3.ofRpsI r (hd f), hv, fun _ h => h, fun _ h => .inl h, .inr (.inr ⟨flat_nils _, rfl, rfl⟩)⟩
    · split
      · rename_i e
        have e : n = nv := by omega
        subst e
        exact ⟨n, Z, rss, rv, rfl, h, hv, fun _ h => h, fun _ h => .inl h, .inl ⟨rfl, rfl, rfl⟩⟩
      · have p : Pers Z H (fun b => Z b ∨ b ∈ rss.flatten ∨ b ∈ rv) H := ⟨fun _ h => .inl h, fun _ _ _ h => h, fun _ _ h _ => h⟩
        have r : Rps K (fun b => Z b ∨ b ∈ rss.flatten ∨ b ∈ rv) H vs ds :=
          All3.rps (R := fun _ _ => True) (P := fun v d rs => Rp K (fun b => Z b ∨ b ∈ rss.flatten ∨ b ∈ rv) H v d) (fun _ _ _ h => h) (h.imp fun v d rs m o => Own.freeze p (fun b hb => ⟨rfl, .inr (.inl (mem_flatten_of m hb))⟩) o)
        exact ⟨0, _, _, [], rfl, All3.ofRps0 r, ⟨rfl, hv.freeze p fun b hb => ⟨rfl, .inr (.inr hb)⟩⟩, fun _ h => .inl h, fun _ h => h, .inr (.inl ⟨flat_nils _, rfl, rfl⟩)⟩
theorem Own.lstE {n : Nat} {v : V} {ds : List D} {rs : List Addr} (h : Own K Z H (n + 1) v (.lst ds) rs) : ∃ a vs rss, v = .ref a ∧ H a = some (.lst vs) ∧ ¬ Z a ∧ All3 (Own K Z H n) vs ds rss ∧ rs = a :: rss.flatten := h

/-- the thing v (dv, nv, rv) comes into the owned list of slot i by the editing of the lists f -/
theorem S.edit (s : S K Z H σ E R) (t0 : Step Z0 H0 (ow R0) Z H (ow R)) {i : Nat} {ds : List D} {n : Nat} (e : eg E i = some (.lst ds, n + 1)) {v : V} {dv : D} {nv : Nat} {rv : List Addr} (hv : Own K Z H nv v dv rv) (fr : Fr R0 H0 R rv)
    (fV : List V → List V) (fD : List D → List D) (fR : List (List Addr) → List Addr → List (List Addr))
    (hf : ∀ (Z : Addr → Prop) (H : Hp) (m : Nat) (vs : List V) (rss : List (List Addr)) (rv : List Addr), All3 (Own K Z H m) vs ds rss → Own K Z H m v dv rv → All3 (Own K Z H m) (fV vs) (fD ds) (fR rss rv))
    (hr : ∀ (rss : List (List Addr)) (rv : List Addr), rss.flatten.Nodup → rv.Nodup → (∀ a ∈ rv, a ∉ rss.flatten) → (fR rss rv).flatten.Nodup ∧ ∀ a ∈ (fR rss rv).flatten, a ∈ rss.flatten ∨ a ∈ rv) :
    ∃ a vs, σ[i]? = some (some (.ref a)) ∧ H a = some (.lst vs) ∧ vs.length = ds.length ∧ ∃ Zf rs', S K Zf (upd H a (.lst (fV vs))) σ (E.set i (some (.lst (fD ds), upl (n + 1) (.lst ds) dv nv))) (put R i rs') ∧
      Step Z0 H0 (ow R0) Zf (upd H a (.lst (fV vs))) (ow (put R i rs')) := by
  obtain ⟨w, e1, o1⟩ := s.slot i _ _ e
  obtain ⟨a, vs, rss, rfl, ha, nz, al, er⟩ := o1.lstE
  refine ⟨a, vs, e1, ha, al.len.1, ?_⟩
  obtain ⟨m, Zf, rss', rv', em, al', hv', zz, zn, c⟩ := level (d := .lst ds) (fun f => by simpa [flat] using f) al hv
  have nd := s.nd i
  rw [er] at nd
  obtain ⟨nd1, nd2⟩ := List.nodup_cons.mp nd
  have inR : ∀ b ∈ rss.flatten, b ∈ R i := fun b m => by rw [er]; exact List.mem_cons_of_mem _ m
  have sub' : ∀ b ∈ rss'.flatten, b ∈ rss.flatten := fun b m => by
    rcases c with ⟨rfl, _, _⟩ | ⟨h, _, _⟩ | ⟨h, _, _⟩
    · exact m
    · rw [h] at m; simp at m
    · rw [h] at m; simp at m
  have nd' : rss'.flatten.Nodup := by
    rcases c with ⟨rfl, _, _⟩ | ⟨h, _, _⟩ | ⟨h, _, _⟩
    · exact nd2
    · rw [h]; exact List.nodup_nil
    · rw [h]; exact List.nodup_nil
  have subv : ∀ b ∈ rv', b ∈ rv := fun b m => by
    rcases c with ⟨_, rfl, _⟩ | ⟨_, rfl, _⟩ | ⟨_, rfl, _⟩
    · exact m
    · simp at m
    · exact m
  have ndv : rv'.Nodup := by
    rcases c with ⟨_, rfl, _⟩ | ⟨_, rfl, _⟩ | ⟨_, rfl, _⟩
    · exact fr.nd
    · exact List.nodup_nil
    · exact fr.nd
  have vno : ∀ b ∈ rv, b ∉ R i := fun b m z => fr.no b m ⟨i, z⟩
  obtain ⟨h1, h2⟩ := hr rss' rv' nd' ndv fun b m z => vno b (subv b m) (inR b (sub' b z))
  have aRi : a ∈ R i := by rw [er]; exact List.mem_cons_self
  have ane : ∀ b ∈ (fR rss' rv').flatten, b ≠ a := fun b m e => by
    subst e
    rcases h2 b m with z | z
    · exact nd1 (sub' b z)
    · exact vno b (subv b z) aRi
  have nzf : ¬ Zf a := fun z => by
    rcases zn a z with z | z | z
    · exact nz z
    · exact nd1 z
    · exact vno a z aRi
  have p : Pers Zf H Zf (upd H a (.lst (fV vs))) := ⟨fun _ h => h, fun b o z e => by
    have ne : b ≠ a := fun e2 => nzf (by rw [← e2]; exact z)
    rw [upd_ne ne]; exact e, fun b o e n => by
    have ne : b ≠ a := fun e2 => n (by rw [e2, ha] at e; cases e; trivial)
    rw [upd_ne ne]; exact e⟩
  have al2 := hf Zf H m vs rss' rv' al' hv'
  have new : Own K Zf (upd H a (.lst (fV vs))) (m + 1) (.ref a) (.lst (fD ds)) (a :: (fR rss' rv').flatten) :=
    ⟨a, _, _, rfl, upd_same, nzf, al2.imp fun v d rs mm o => o.keep p fun b hb => ⟨upd_ne (ane b (mem_flatten_of mm hb)), (o.mut b hb).2⟩, rfl⟩
  have q := s.write t0 (ts := rv) (eg_lt e) e1 aRi new zz (fun b z => ?_) (fun b m => ?_) (List.nodup_cons.mpr ⟨fun z => ane a z rfl, h1⟩) fr.no hv.there fr.of
  · rw [em]; exact ⟨Zf, _, q⟩
  · rcases zn b z with z | z | z
    · exact .inl z
    · exact .inr (.inl (inR b z))
    · exact .inr (.inr z)
  · rcases List.mem_cons.mp m with rfl | m
    · exact .inl aRi
    · rcases h2 b m with z | z
      · exact .inl (inR b (sub' b z))
      · exact .inr (subv b z)

/-- what slot i holds, if it is an owned list -/
def lstAt (E : Ev) (i : Nat) : Option (List D × Nat) := match eg E i with
  | some (.lst ds, n + 1) => some (ds, n + 1)
  | _ => none
theorem lstAt_eg {i : Nat} {ds : List D} {n : Nat} (h : lstAt E i = some (ds, n)) : ∃ m, n = m + 1 ∧ eg E i = some (.lst ds, m + 1) := by
  unfold lstAt at h
  split at h
  · rename_i q
    cases h
    exact ⟨_, rfl, q⟩
  · cases h
/-- xs.append(e) -/
def mApp (i : Nat) (fe : Fe) : Fe := fun E => (lstAt E i).bind fun _ => (fe E).bind fun p => (tk p.2 p.1).bind fun q => (lstAt q.2.2 i).bind fun l =>
  if l.1.length < sizeLine then some (.val .non 9, q.2.2.set i (some (.lst (l.1 ++ [q.1]), upl l.2 (.lst l.1) q.1 q.2.1))) else none
theorem app_of {i : Nat} {fe : Fe} {H : Hp} {Q : VK} (q : eOf K (mApp i fe) σ H Q) : ∃ x, σ[i]? = some (some x) ∧ tyV K "list" x H ∧ eOf K fe σ H fun y H1 => rAppend x [y] H1 Q := by
  obtain ⟨Z, E, R, s, o, E', e, q⟩ := q
  unfold mApp at e
  cases e0 : lstAt E i with
  | none => rw [e0] at e; cases e
  | some l0 =>
    rw [e0] at e
    simp only [Option.bind_some] at e
    cases e1 : fe E with
    | none => rw [e1] at e; cases e
    | some p =>
      obtain ⟨o1, E1⟩ := p
      rw [e1] at e
      simp only [Option.bind_some] at e
      cases e2 : tk E1 o1 with
      | none => rw [e2] at e; cases e
      | some p2 =>
        obtain ⟨dv, nv, E2⟩ := p2
        rw [e2] at e
        simp only [Option.bind_some] at e
        cases e3 : lstAt E2 i with
        | none => rw [e3] at e; cases e
        | some l =>
          obtain ⟨ds, n⟩ := l
          rw [e3] at e
          simp only [Option.bind_some] at e
          split at e
          · rename_i hl
            cases e
            obtain ⟨m0, _, g0⟩ := lstAt_eg (n := l0.2) (ds := l0.1) e0
            obtain ⟨m, rfl, g⟩ := lstAt_eg e3
            obtain ⟨w, ew, ow1⟩ := s.slot i _ _ g0
            obtain ⟨a0, vs0, rss0, rfl, ha0, _⟩ := ow1.lstE
            refine ⟨_, ew, .inl ⟨rfl, _, .inl (.inl ha0)⟩, Z, E, R, s, o1, E1, e1, fun v Z1 H1 R1 rs s1 t1 ov f1 => ?_⟩
            obtain ⟨Z2, R2, s2, t2, o2, n2, sub2⟩ := s1.take ov f1.no e2
            obtain ⟨a, vs, e4, ha, hlen, Zf, rs', s3, t3⟩ := s2.edit (t1.trans t2) g o2 ⟨f1.nd, n2, f1.of⟩ (fun vs => vs ++ [v]) (fun ds => ds ++ [dv]) (fun rss rv => rss ++ [rv]) (fun Z H m vs rss rv al ho => al.append (.cons ho .nil)) (fun rss rv h1 h2 h3 => by
              rw [List.flatten_append]
              simp only [List.flatten_cons, List.flatten_nil, List.append_nil]
              exact ⟨List.nodup_append.mpr ⟨h1, h2, fun a m b m2 e => h3 b m2 (e ▸ m)⟩, fun a m => List.mem_append.mp m⟩)
            rw [ew] at e4
            cases e4
            refine ⟨_, vs, v, rfl, rfl, ha, by rw [hlen]; exact hl, ?_⟩
            exact q _ Zf _ _ [] s3 t3 (Own.ofImm .non (by simp)) .nil
          · cases e
/-- the k-th thing is taken out of the owned list of slot i -/
theorem S.out (s : S K Z H σ E R) (t0 : Step Z0 H0 (ow R0) Z H (ow R)) {i : Nat} {ds : List D} {n : Nat} (e : eg E i = some (.lst ds, n + 1)) {k : Nat} {d : D} (hk : ds[k]? = some d) :
    ∃ a vs v, σ[i]? = some (some (.ref a)) ∧ H a = some (.lst vs) ∧ vs.length = ds.length ∧ vs[k]? = some v ∧ ∃ rv rs', S K Z (upd H a (.lst (vs.eraseIdx k))) σ (E.set i (some (.lst (ds.eraseIdx k), n + 1))) (put R i rs') ∧
      Step Z0 H0 (ow R0) Z (upd H a (.lst (vs.eraseIdx k))) (ow (put R i rs')) ∧ Own K Z (upd H a (.lst (vs.eraseIdx k))) n v d rv ∧ Fr R0 H0 (put R i rs') rv := by
  obtain ⟨w, e1, o1⟩ := s.slot i _ _ e
  obtain ⟨a, vs, rss, rfl, ha, nz, al, er⟩ := o1.lstE
  obtain ⟨v, rv, h1, h2, ov⟩ := al.get hk
  refine ⟨a, vs, v, e1, ha, al.len.1, h1, rv, a :: (rss.eraseIdx k).flatten, ?_⟩
  have nd := s.nd i
  rw [er] at nd
  obtain ⟨nd1, nd2⟩ := List.nodup_cons.mp nd
  obtain ⟨f1, f2⟩ := flat_erase k nd2
  have aRi : a ∈ R i := by rw [er]; exact List.mem_cons_self
  have mem : rv ∈ rss := List.mem_of_getElem? h2
  have p : Pers Z H Z (upd H a (.lst (vs.eraseIdx k))) := ⟨fun _ h => h, fun b o z e => by
    have ne : b ≠ a := fun e2 => nz (by rw [← e2]; exact z)
    rw [upd_ne ne]; exact e, fun b o e n => by
    have ne : b ≠ a := fun e2 => n (by rw [e2, ha] at e; cases e; trivial)
    rw [upd_ne ne]; exact e⟩
  have ne : ∀ b ∈ rss.flatten, b ≠ a := fun b m e => nd1 (e ▸ m)
  have new : Own K Z (upd H a (.lst (vs.eraseIdx k))) (n + 1) (.ref a) (.lst (ds.eraseIdx k)) (a :: (rss.eraseIdx k).flatten) :=
    ⟨a, _, _, rfl, upd_same, nz, (al.erase k).imp fun v d rs mm o => o.keep p fun b hb => ⟨upd_ne (ne b (f2 b (mem_flatten_of mm hb))), (o.mut b hb).2⟩, rfl⟩
  have rvR : ∀ b ∈ rv, b ∈ R i := fun b m => by rw [er]; exact List.mem_cons_of_mem _ (mem_flatten_of mem m)
  have q := s.write t0 (ts := []) (eg_lt e) e1 aRi new (fun _ h => h) (fun b z => .inl z) (fun b m => .inl (by
      rw [er]
      rcases List.mem_cons.mp m with rfl | m
      · exact List.mem_cons_self
      · exact List.mem_cons_of_mem _ (f2 b m))) (List.nodup_cons.mpr ⟨fun z => nd1 (f2 a z), f1⟩) (fun b m => by simp at m) (fun b m => by simp at m) fun b m => by simp at m
  refine ⟨q.1, q.2, ov.keep p fun b hb => ⟨upd_ne (ne b (mem_flatten_of mem hb)), (ov.mut b hb).2⟩, ⟨?_, fun b m ⟨j, hj⟩ => ?_, fun b m => t0.on b ⟨i, rvR b m⟩⟩⟩
  · exact nd2.sublist (List.sublist_flatten_of_mem mem)
  · by_cases c : j = i
    · subst c
      rw [put_same] at hj
      rcases List.mem_cons.mp hj with rfl | hj
      · exact ne _ (mem_flatten_of mem m) rfl
      · exact (apart k nd2 h2 b m) hj
    · rw [put_ne c] at hj
      exact c (s.dj j i b hj (rvR b m))
where
  apart : ∀ {rss : List (List Addr)} {rv : List Addr} (k : Nat), rss.flatten.Nodup → rss[k]? = some rv → ∀ a ∈ rv, a ∉ (rss.eraseIdx k).flatten
    | [], _, k, _, h => by simp at h
    | r :: rss, rv, 0, nd, h => by
      simp at h
      subst h
      rw [List.flatten_cons, List.nodup_append] at nd
      intro a m z
      exact nd.2.2 a m a z rfl
    | r :: rss, rv, k + 1, nd, h => by
      rw [List.flatten_cons, List.nodup_append] at nd
      intro a m z
      rw [List.eraseIdx_cons_succ, List.flatten_cons, List.mem_append] at z
      have h' : rss[k]? = some rv := by simpa using h
      rcases z with z | z
      · exact nd.2.2 a z a (mem_flatten_of (List.mem_of_getElem? h') m) rfl
      · exact apart k nd.2.1 h' a m z
/-- xs.pop() -/
def mPop (i : Nat) : Fe := fun E => (lstAt E i).bind fun l => (l.1[l.1.length - 1]?).map fun d => (.val d (l.2 - 1), E.set i (some (.lst l.1.dropLast, l.2)))
theorem pop_of {i : Nat} {H : Hp} {Q : VK} (q : eOf K (mPop i) σ H Q) : ∃ x, σ[i]? = some (some x) ∧ tyV K "list" x H ∧ rPop x [] H Q := by
  obtain ⟨Z, E, R, s, o, E', e, q⟩ := q
  unfold mPop at e
  cases e0 : lstAt E i with
  | none => rw [e0] at e; cases e
  | some l =>
    obtain ⟨ds, n⟩ := l
    rw [e0] at e
    simp only [Option.bind_some] at e
    cases e1 : ds[ds.length - 1]? with
    | none => rw [e1] at e; cases e
    | some d =>
      rw [e1] at e
      cases e
      obtain ⟨m, rfl, g⟩ := lstAt_eg e0
      obtain ⟨a, vs, v, h1, h2, h3, h4, rv, rs', s', t', o', f'⟩ := s.out .refl g e1
      rw [← h3] at h4
      refine ⟨_, h1, .inl ⟨rfl, _, .inl (.inl h2)⟩, a, vs, v, rfl, rfl, h2, h4, ?_⟩
      rw [← h3, List.eraseIdx_length_sub_one] at s' t' o'
      rw [h3, List.eraseIdx_length_sub_one] at s'
      exact q v Z _ _ rv s' t' o' f'
/-- xs.reverse() -/
def mRev (i : Nat) : Fe := fun E => (lstAt E i).map fun l => (.val .non 9, E.set i (some (.lst l.1.reverse, l.2)))
theorem rev_of {i : Nat} {H : Hp} {Q : VK} (q : eOf K (mRev i) σ H Q) : ∃ x, σ[i]? = some (some x) ∧ tyV K "list" x H ∧ rReverse x [] H Q := by
  obtain ⟨Z, E, R, s, o, E', e, q⟩ := q
  unfold mRev at e
  cases e0 : lstAt E i with
  | none => rw [e0] at e; cases e
  | some l =>
    obtain ⟨ds, n⟩ := l
    rw [e0] at e
    cases e
    obtain ⟨m, rfl, g⟩ := lstAt_eg e0
    obtain ⟨a, vs, h1, h2, h3, Zf, rs', s', t'⟩ := s.edit .refl g (v := .non) (dv := .non) (nv := 0) (rv := []) ⟨rfl, .non⟩ .nil (fun vs => vs.reverse) (fun ds => ds.reverse) (fun rss _ => rss.reverse) (fun Z H m vs rss rv al _ => al.rev) (fun rss rv h _ _ => by
      refine ⟨?_, fun a m => .inl ?_⟩
      · exact (List.reverse_perm rss).flatten.nodup_iff.mpr h
      · exact (List.reverse_perm rss).flatten.mem_iff.mp m)
    refine ⟨_, h1, .inl ⟨rfl, _, .inl (.inl h2)⟩, a, vs, rfl, rfl, h2, ?_⟩
    have e1 : upl (m + 1) (.lst ds) .non 0 = m + 1 := by simp [upl]
    rw [e1] at s'
    exact q _ Zf _ _ [] s' t' (Own.ofImm .non (by simp)) .nil
end
section
variable {X : Cx} {e : Expr} {fe : Fe} {pos apos cpos : PySem.Pos} {i : Nat} {x : Str}
theorem ae_app (i : Nat) {x : Str} (he : AE X e fe) (hN : X.N[i]? = some x := by rfl) (hv : Vis X.env.scope x := by first | exact Or.inl rfl | exact Or.inr (Or.inl rfl) | exact Or.inr (Or.inr rfl)) (hd : (x == ("__debug__" : Str)) = false := by decide)
    (hcd : (x == ("__classdict__" : Str)) = false := by decide)
    (hbase : attributeBase (.Name x pos) "append" X.env (eval (.Name x pos) X.env) = eval (.Name x pos) X.env := by rfl)
    (hfew : ((backTo cpos (starEach [e] X.env)).all (fun x => !x.1) && (backToKw cpos (keywordEach [] X.env)).all (fun x => x.1.isSome)
      && decide (([e] : List Expr).length + ([] : List Keyword).length + (if ([] : List Keyword).isEmpty then 0 else 1) < 30)) = true := by rfl)
    (hline : (apos.endLine == cpos.line) = true := by rfl) (hs : starEach [e] X.env = (false, eval e X.env) :: starEach [] X.env := by rfl) :
    AE X (.Call (.Attribute (.Name x pos) "append" apos) [e] [] cpos) (mApp i fe) :=
  PE.mono (pe_bm PySem.F.plainAttrs_list PySem.F.slot_list_append PySem.F.type_list_append mt_append (pe_var hN hv hd hcd) (pa_cons he pa_nil hs) hbase hfew hline hs rfl) fun σ H Q q => by
    obtain ⟨y, e1, ty, q⟩ := app_of q
    exact ⟨y, e1, ty, eOf_imp (fun z H1 q => q) q⟩
theorem ae_pop (i : Nat) {x : Str} (hN : X.N[i]? = some x := by rfl) (hv : Vis X.env.scope x := by first | exact Or.inl rfl | exact Or.inr (Or.inl rfl) | exact Or.inr (Or.inr rfl)) (hd : (x == ("__debug__" : Str)) = false := by decide)
    (hcd : (x == ("__classdict__" : Str)) = false := by decide)
    (hbase : attributeBase (.Name x pos) "pop" X.env (eval (.Name x pos) X.env) = eval (.Name x pos) X.env := by rfl) (hline : (apos.endLine == cpos.line) = true := by rfl) :
    AE X (.Call (.Attribute (.Name x pos) "pop" apos) [] [] cpos) (mPop i) :=
  PE.mono (pe_bm0 PySem.F.plainAttrs_list PySem.F.slot_list_pop PySem.F.type_list_pop mt_pop (pe_var hN hv hd hcd) hbase hline) fun σ H Q q => pop_of q
theorem ae_rev (i : Nat) {x : Str} (hN : X.N[i]? = some x := by rfl) (hv : Vis X.env.scope x := by first | exact Or.inl rfl | exact Or.inr (Or.inl rfl) | exact Or.inr (Or.inr rfl)) (hd : (x == ("__debug__" : Str)) = false := by decide)
    (hcd : (x == ("__classdict__" : Str)) = false := by decide)
    (hbase : attributeBase (.Name x pos) "reverse" X.env (eval (.Name x pos) X.env) = eval (.Name x pos) X.env := by rfl) (hline : (apos.endLine == cpos.line) = true := by rfl) :
    AE X (.Call (.Attribute (.Name x pos) "reverse" apos) [] [] cpos) (mRev i) :=
  PE.mono (pe_bm0 PySem.F.plainAttrs_list PySem.F.slot_list_reverse PySem.F.type_list_reverse mt_reverse (pe_var hN hv hd hcd) hbase hline) fun σ H Q q => rev_of q
end
end Zk
namespace Zk
open PySem PySem.Spec PyProof.Rows L2

section
variable {K : PySem.W.Frag} {Z Z' Zf Z0 : Addr → Prop} {H H' H0 : Hp} {σ : L2.St} {E E' : Ev} {R R' R0 : Rs}
/-- name = e -/
def mSet (i : Nat) (f : Fe) : Fs := fun E => (f E).bind fun p => (tk p.2 p.1).bind fun q => if i < q.2.2.length then some (.nx, q.2.2.set i (some (q.1, q.2.1))) else none
theorem set_of {i : Nat} {f : Fe} {D : Ends} (q : sOf K [i] (mSet i f) D σ H) : eOf K f σ H fun v H1 => D.nx (σ.set i (some v)) H1 := by
  obtain ⟨Z, E, R, s, fl, E', e, q⟩ := q
  unfold mSet at e
  cases e1 : f E with
  | none => rw [e1] at e; cases e
  | some p =>
    obtain ⟨o, E1⟩ := p
    rw [e1] at e
    simp only [Option.bind_some] at e
    cases e2 : tk E1 o with
    | none => rw [e2] at e; cases e
    | some p2 =>
      obtain ⟨d, n, E2⟩ := p2
      rw [e2] at e
      simp only [Option.bind_some] at e
      split at e
      · rename_i hi
        cases e
        refine ⟨Z, E, R, s, o, E1, e1, fun v Z1 H1 R1 rs s1 t1 ov f1 => ?_⟩
        obtain ⟨Z2, R2, s2, t2, o2, n2, sub2⟩ := s1.take ov f1.no e2
        refine q _ Z2 H1 _ (s2.setSlot hi o2 f1.nd n2) ((t1.trans t2).fin (fun _ h => h) (fun a z => .inl z) (.refl _) fun a z => ?_) fun j hj => ?_
        · rcases ow_put z with z | z
          · rcases f1.of a z with z | z
            · exact .inr (.inl z)
            · exact .inr (.inr z)
          · exact .inl z
        · rw [List.getElem?_set_ne (fun c => hj (by simp [c]))]
      · cases e
/-- return e -/
def mRet (f : Fe) : Fs := fun E => (f E).bind fun p => (mv p.2 p.1).map fun q => (.rt q.1 q.2.1, q.2.2)
theorem ret_of {w : List Nat} {f : Fe} {D : Ends} (q : sOf K w (mRet f) D σ H) : eOf K f σ H D.rt := by
  obtain ⟨Z, E, R, s, fl, E', e, q⟩ := q
  unfold mRet at e
  cases e1 : f E with
  | none => rw [e1] at e; cases e
  | some p =>
    obtain ⟨o, E1⟩ := p
    rw [e1] at e
    simp only [Option.bind_some] at e
    cases e2 : mv E1 o with
    | none => rw [e2] at e; cases e
    | some p2 =>
      obtain ⟨d, n, E2⟩ := p2
      rw [e2] at e
      cases e
      refine ⟨Z, E, R, s, o, E1, e1, fun v Z1 H1 R1 rs s1 t1 ov f1 => ?_⟩
      obtain ⟨R2, rs2, s2, t2, o2, nd2, n2, in2, sub2⟩ := s1.move ov f1.nd f1.no e2
      refine q σ Z1 H1 R2 s2 (t1.trans t2) (fun _ _ => rfl) v rs2 o2 ⟨nd2, n2, fun a m => ?_⟩
      rcases in2 a m with m | m
      · exact f1.of a m
      · exact t1.on a m
/-- an expression whose value is dropped -/
def mEx (f : Fe) : Fs := fun E => (f E).map fun p => (.nx, p.2)
theorem ex_of {w : List Nat} {f : Fe} {D : Ends} (q : sOf K w (mEx f) D σ H) : eOf K f σ H fun _ H1 => D.nx σ H1 := by
  obtain ⟨Z, E, R, s, fl, E', e, q⟩ := q
  unfold mEx at e
  cases e1 : f E with
  | none => rw [e1] at e; cases e
  | some p =>
    rw [e1] at e
    cases e
    exact ⟨Z, E, R, s, p.1, p.2, e1, fun v Z1 H1 R1 rs s1 t1 ov f1 => q σ Z1 H1 R1 s1 t1 fun _ _ => rfl⟩
def mSeq (a b : Fs) : Fs := fun E => (a E).bind fun p => match p.1 with
  | .nx => b p.2
  | fl => some (fl, p.2)
def mNx : Fs := fun E => some (.nx, E)
/-- behind a first part -/
theorem seq_of {w w1 w2 : List Nat} {a b : Fs} {D : Ends} (h1 : ∀ i ∈ w1, i ∈ w) (h2 : ∀ i ∈ w2, i ∈ w) (q : sOf K w (mSeq a b) D σ H) : sOf K w1 a { D with nx := fun σ' H' => sOf K w2 b D σ' H' } σ H := by
  obtain ⟨Z, E, R, s, fl, E', e, q⟩ := q
  unfold mSeq at e
  cases e1 : a E with
  | none => rw [e1] at e; cases e
  | some p =>
    obtain ⟨f1, E1⟩ := p
    rw [e1] at e
    simp only [Option.bind_some] at e
    refine ⟨Z, E, R, s, f1, E1, e1, fun σ' Z' H' R' s' t' k => ?_⟩
    cases f1 with
    | nx =>
      refine ⟨Z', E1, R', s', fl, E', e, fun σ2 Z2 H2 R2 s2 t2 k2 => ?_⟩
      have := q σ2 Z2 H2 R2 s2 (t'.trans t2) fun i hi => (k2 i fun m => hi (h2 i m)).trans (k i fun m => hi (h1 i m))
      cases fl with
      | rt d n => exact fun v rs ov fr => this v rs ov (fr.trans t'.on t'.dm)
      | nx => exact this
      | bk => exact this
      | ct => exact this
    | bk => cases e; exact q σ' Z' H' R' s' t' fun i hi => k i fun m => hi (h1 i m)
    | ct => cases e; exact q σ' Z' H' R' s' t' fun i hi => k i fun m => hi (h1 i m)
    | rt d n => cases e; exact q σ' Z' H' R' s' t' fun i hi => k i fun m => hi (h1 i m)
def mIfS (c : Ft) (a b : Fs) : Fs := fun E => (c E).bind fun p => if p.1 = true then a p.2 else b p.2
theorem if_of {w w1 w2 : List Nat} {c : Ft} {a b : Fs} {D : Ends} (h1 : ∀ i ∈ w1, i ∈ w) (h2 : ∀ i ∈ w2, i ∈ w) (q : sOf K w (mIfS c a b) D σ H) : cOf K c σ H fun k H1 => if k = true then sOf K w1 a D σ H1 else sOf K w2 b D σ H1 := by
  obtain ⟨Z, E, R, s, fl, E', e, q⟩ := q
  unfold mIfS at e
  cases e1 : c E with
  | none => rw [e1] at e; cases e
  | some p =>
    obtain ⟨k, E1⟩ := p
    rw [e1] at e
    simp only [Option.bind_some] at e
    refine ⟨Z, E, R, s, k, E1, e1, fun Z' H' R' s' t' => ?_⟩
    have go : ∀ (f : Fs) (w3 : List Nat), (∀ i ∈ w3, i ∈ w) → f E1 = some (fl, E') → sOf K w3 f D σ H' := fun f w3 h3 e => by
      refine ⟨Z', E1, R', s', fl, E', e, fun σ2 Z2 H2 R2 s2 t2 k2 => ?_⟩
      have := q σ2 Z2 H2 R2 s2 (t'.trans t2) fun i hi => k2 i fun m => hi (h3 i m)
      cases fl with
      | rt d n => exact fun v rs ov fr => this v rs ov (fr.trans t'.on t'.dm)
      | nx => exact this
      | bk => exact this
      | ct => exact this
    cases k with
    | true => rw [if_pos rfl] at e; exact iteT (go a w1 h1 e)
    | false => rw [if_neg Bool.false_ne_true] at e; exact iteF (go b w2 h2 e)
open Classical in
/-- a target that takes a frozen thing -/
abbrev Fg := D → Ev → Option Ev
def gOf (K : PySem.W.Frag) (w : List Nat) (f : Fg) : TG := fun v σ H Q => ∃ Z E R d, S K Z H σ E R ∧ Rp K Z H v d ∧ ∃ E', f d E = some E' ∧
  ∀ σ' R', S K Z H σ' E' R' → Step Z H (ow R) Z H (ow R') → (∀ i, i ∉ w → σ'[i]? = σ[i]?) → Q σ' H
def gsOf (K : PySem.W.Frag) (w : List Nat) (f : List D → Ev → Option Ev) : TGs := fun vs σ H Q => ∃ Z E R ds, S K Z H σ E R ∧ Rps K Z H vs ds ∧ ∃ E', f ds E = some E' ∧
  ∀ σ' R', S K Z H σ' E' R' → Step Z H (ow R) Z H (ow R') → (∀ i, i ∉ w → σ'[i]? = σ[i]?) → Q σ' H
def tgV (i : Nat) : Fg := fun d E => if i < E.length then some (E.set i (some (d, 0))) else none
theorem gn_of {i : Nat} {v : V} {Q : L2.St → Hp → Prop} (q : gOf K [i] (tgV i) v σ H Q) : gName i v σ H Q := by
  obtain ⟨Z, E, R, d, s, r, E', e, q⟩ := q
  unfold tgV at e
  split at e
  · rename_i hi
    cases e
    refine q _ _ (s.setSlot (rs := []) hi ⟨rfl, r⟩ List.nodup_nil fun a m => by simp at m) ⟨fun _ h => h, fun _ h => .inl h, fun _ _ h _ => h, fun a h => ?_, fun _ h => h⟩ fun j hj => ?_
    · rcases ow_put h with h | h
      · simp at h
      · exact .inl h
    · rw [List.getElem?_set_ne (fun c => hj (by simp [c]))]
  · cases e
def tgN : List D → Ev → Option Ev := fun ds E => match ds with
  | [] => some E
  | _ => none
def tgC (f : Fg) (g : List D → Ev → Option Ev) : List D → Ev → Option Ev := fun ds E => match ds with
  | d :: ds => (f d E).bind fun E1 => g ds E1
  | [] => none
theorem gnil_of {vs : List V} {Q : L2.St → Hp → Prop} {w : List Nat} (q : gsOf K w tgN vs σ H Q) : gNil vs σ H Q := by
  obtain ⟨Z, E, R, ds, s, r, E', e, q⟩ := q
  cases r with
  | nil => cases e; exact ⟨rfl, q σ R s .refl fun _ _ => rfl⟩
  | cons h t => cases e
theorem gcons_of {f : Fg} {g : List D → Ev → Option Ev} {vs : List V} {Q : L2.St → Hp → Prop} {w w1 w2 : List Nat} (h1 : ∀ i ∈ w1, i ∈ w) (h2 : ∀ i ∈ w2, i ∈ w) (q : gsOf K w (tgC f g) vs σ H Q) : gCons (gOf K w1 f) (gsOf K w2 g) vs σ H Q := by
  obtain ⟨Z, E, R, ds, s, r, E', e, q⟩ := q
  cases r with
  | nil => cases e
  | cons h t =>
    rename_i v d vs ds
    unfold tgC at e
    simp only at e
    cases e1 : f d E with
    | none => rw [e1] at e; cases e
    | some E1 =>
      rw [e1] at e
      refine ⟨v, vs, rfl, Z, E, R, d, s, h, E1, e1, fun σ1 R1 s1 t1 k1 => ?_⟩
      exact ⟨Z, E1, R1, ds, s1, t, E', e, fun σ2 R2 s2 t2 k2 => q σ2 R2 s2 (t1.trans t2) fun i hi => (k2 i fun m => hi (h2 i m)).trans (k1 i fun m => hi (h1 i m))⟩
/-- (a, b, ..) -/
def tgT (n : Nat) (g : List D → Ev → Option Ev) : Fg := fun d E => match d with
  | .tup ds => if ds.length = n then g ds E else none
  | .con ds => if ds.length = n then g ds E else none
  | .lst ds => if ds.length = n then g ds E else none
  | _ => none
theorem gt_of {n : Nat} {g : List D → Ev → Option Ev} {v : V} {Q : L2.St → Hp → Prop} {w : List Nat} (q : gOf K w (tgT n g) v σ H Q) : gTup K n (gsOf K w g) v σ H Q ∨ gUnl K n (gsOf K w g) v σ H Q := by
  obtain ⟨Z, E, R, d, s, r, E', e, q⟩ := q
  cases r with
  | tup h t =>
    unfold tgT at e
    simp only at e
    split at e
    · rename_i hl
      exact .inl ⟨_, _, rfl, .of h, by rw [t.len]; exact hl, Z, E, R, _, s, t, E', e, q⟩
    · cases e
  | con h t =>
    unfold tgT at e
    simp only at e
    split at e
    · rename_i hl
      exact .inl ⟨_, _, rfl, h.sq, by rw [t.len]; exact hl, Z, E, R, _, s, t, E', e, q⟩
    · cases e
  | lst z h t =>
    unfold tgT at e
    simp only at e
    split at e
    · rename_i hl
      exact .inr ⟨_, _, rfl, .inl (.inl h), by rw [t.len]; exact hl, Z, E, R, _, s, t, E', e, q⟩
    · cases e
  | _ => cases e
/-- target = e -/
def mAsg (g : Fg) (f : Fe) : Fs := fun E => (f E).bind fun p => (tk p.2 p.1).bind fun q => (g q.1 q.2.2).map fun E' => (.nx, E')
theorem asg_of {g : Fg} {f : Fe} {D : Ends} {w : List Nat} (q : sOf K w (mAsg g f) D σ H) : eOf K f σ H fun v H1 => gOf K w g v σ H1 D.nx := by
  obtain ⟨Z, E, R, s, fl, E', e, q⟩ := q
  unfold mAsg at e
  cases e1 : f E with
  | none => rw [e1] at e; cases e
  | some p =>
    obtain ⟨o, E1⟩ := p
    rw [e1] at e
    simp only [Option.bind_some] at e
    cases e2 : tk E1 o with
    | none => rw [e2] at e; cases e
    | some p2 =>
      obtain ⟨d, n, E2⟩ := p2
      rw [e2] at e
      simp only [Option.bind_some] at e
      cases e3 : g d E2 with
      | none => rw [e3] at e; cases e
      | some E3 =>
        rw [e3] at e
        cases e
        refine ⟨Z, E, R, s, o, E1, e1, fun v Z1 H1 R1 rs s1 t1 ov f1 => ?_⟩
        obtain ⟨Z2, R2, s2, t2, o2, n2, sub2⟩ := s1.take ov f1.no e2
        have s3 := s2.chill n2 o2.there
        have r : Rp K (fun a => Z2 a ∨ a ∈ rs) H1 v d := o2.freeze ⟨fun _ h => .inl h, fun _ _ _ h => h, fun _ _ h _ => h⟩ fun a m => ⟨rfl, .inr m⟩
        have t3 : Step Z H (ow R) (fun a => Z2 a ∨ a ∈ rs) H1 (ow R2) := (t1.trans t2).fin (fun _ h => .inl h) (fun a z => by
          rcases z with z | z
          · exact .inl z
          · rcases f1.of a z with z | z
            · exact .inr (.inr (.inl z))
            · exact .inr (.inr (.inr z))) (.refl _) fun a h => .inl h
        exact ⟨_, E2, R2, d, s3, r, E', e3, fun σ' R' s' t' k' => q σ' _ H1 R' s' (t3.trans t') k'⟩

/-- what a loop walks: its things, all frozen -/
structure IOk (K : PySem.W.Frag) (J : It) (its : List D) (Z0 : Addr → Prop) (H0 : Hp) : Prop where
  go : ∀ Z H i, Pers Z0 H0 Z H → i < its.length → J.go i H
  stop : ∀ Z H, Pers Z0 H0 Z H → J.stop its.length H
  yld : ∀ Z H i x H', Pers Z0 H0 Z H → i < its.length → J.yld i H x H' → More H H' ∧ ∃ d, its[i]? = some d ∧ Rp K Z H' x d
abbrev Fi := Ev → Option (List D × Ev)
def iOf (K : PySem.W.Frag) (f : Fi) : TI := fun σ H Rk => ∃ Z E R, S K Z H σ E R ∧ ∃ its E', f E = some (its, E') ∧
  ∀ J Z' H' R', S K Z' H' σ E' R' → Step Z H (ow R) Z' H' (ow R') → IOk K J its Z' H' → Rk J H'
abbrev AI (X : Cx) (tg iter : Expr) (f : Fi) : Prop := PI X tg iter (iOf X.K f)
theorem PI.mono {X : Cx} {tg iter : Expr} {t t' : TI} (h : PI X tg iter t) (m : ∀ σ H R, t' σ H R → t σ H R) : PI X tg iter t' := ⟨fun pins s σ H R I q => h.run pins s σ H R I (m σ H R q)⟩
def forM (g : Fg) (body : Fs) : List D → Fs
  | [] => fun E => some (.nx, E)
  | d :: ds => fun E => (g d E).bind fun E1 => (body E1).bind fun q => match q.1 with
    | .nx => forM g body ds q.2
    | .ct => forM g body ds q.2
    | .bk => some (.nx, q.2)
    | .rt d k => some (.rt d k, q.2)
def mFor (it : Fi) (g : Fg) (body : Fs) : Fs := fun E => (it E).bind fun p => forM g body p.1 p.2
theorem for_of {w w1 w2 : List Nat} {it : Fi} {g : Fg} {body : Fs} {D : Ends} (h1 : ∀ i ∈ w1, i ∈ w) (h2 : ∀ i ∈ w2, i ∈ w) (q : sOf K w (mFor it g body) D σ H) : tFor (iOf K it) (gOf K w1 g) (sOf K w2 body) D σ H := by
  obtain ⟨Z, E, R, s, fl, E', e, q⟩ := q
  unfold mFor at e
  cases e1 : it E with
  | none => rw [e1] at e; cases e
  | some p =>
    obtain ⟨its, E1⟩ := p
    rw [e1] at e
    simp only [Option.bind_some] at e
    refine ⟨Z, E, R, s, its, E1, e1, fun J Z1 H1 R1 s1 t1 ok => ?_⟩
    refine ⟨fun i m σ2 H2 => ∃ Z2 E2 R2, S K Z2 H2 σ2 E2 R2 ∧ Step Z1 H1 (ow R1) Z2 H2 (ow R2) ∧ (∀ j, j ∉ w → σ2[j]? = σ[j]?) ∧ m = its.length - i ∧ i ≤ its.length ∧ forM g body (its.drop i) E2 = some (fl, E'),
      ⟨its.length, Z1, E1, R1, s1, .refl, fun _ _ => rfl, by simp, Nat.zero_le _, e⟩, ?_⟩
    rintro i m σ2 H2 ⟨Z2, E2, R2, s2, t2, k2, rfl, hi, e2⟩
    have p2 : Pers Z1 H1 Z2 H2 := s1.pers t2
    by_cases hlt : i < its.length
    · right
      refine ⟨ok.go Z2 H2 i p2 hlt, ?_⟩
      rw [List.drop_eq_getElem_cons hlt] at e2
      simp only [forM] at e2
      cases e3 : g its[i] E2 with
      | none => rw [e3] at e2; cases e2
      | some E3 =>
        rw [e3] at e2
        simp only [Option.bind_some] at e2
        cases e4 : body E3 with
        | none => rw [e4] at e2; cases e2
        | some p4 =>
          obtain ⟨f4, E4⟩ := p4
          rw [e4] at e2
          simp only [Option.bind_some] at e2
          refine ⟨fun σ5 H5 => ∃ Z5 R5, S K Z5 H5 σ5 E4 R5 ∧ Step Z1 H1 (ow R1) Z5 H5 (ow R5) ∧ (∀ j, j ∉ w → σ5[j]? = σ[j]?) ∧ forM g body (its.drop (i + 1)) E4 = some (fl, E'),
            fun σ5 H5 ⟨Z5, R5, a, b, c, d⟩ => ⟨its.length - (i + 1), by omega, Z5, E4, R5, a, b, c, rfl, hlt, d⟩, fun x H3 y => ?_⟩
          obtain ⟨m3, d, hd, rx⟩ := ok.yld Z2 H2 i x H3 p2 hlt y
          have ed : its[i] = d := by rw [List.getElem?_eq_getElem hlt] at hd; exact Option.some.inj hd
          refine ⟨Z2, E2, R2, d, s2.more m3, rx, E3, by rw [← ed]; exact e3, fun σ4 R4 s4 t4 k4 => ?_⟩
          have t24 := (t2.trans (m3.step _)).trans t4
          refine ⟨Z2, E3, R4, s4, f4, E4, e4, fun σ5 Z5 H5 R5 s5 t5 k5 => ?_⟩
          have k6 : ∀ j, j ∉ w → σ5[j]? = σ[j]? := fun j hj => ((k5 j fun m => hj (h2 j m)).trans (k4 j fun m => hj (h1 j m))).trans (k2 j hj)
          cases f4 with
          | nx => exact ⟨Z5, R5, s5, t24.trans t5, k6, e2⟩
          | ct => exact ⟨Z5, R5, s5, t24.trans t5, k6, e2⟩
          | bk => cases e2; exact q σ5 Z5 H5 R5 s5 (t1.trans (t24.trans t5)) k6
          | rt d n =>
            cases e2
            exact fun v rs ov fr => q σ5 Z5 H5 R5 s5 (t1.trans (t24.trans t5)) k6 v rs ov (fr.trans (t1.trans t24).on (t1.trans t24).dm)
    · left
      have ei : i = its.length := by omega
      subst ei
      rw [List.drop_length] at e2
      cases e2
      exact ⟨ok.stop Z2 H2 p2, q σ2 Z2 H2 R2 s2 (t1.trans t2) k2⟩
end
end Zk
namespace Zk
open PySem PySem.Spec PyProof.Rows L2

section
variable {K : PySem.W.Frag} {Z Z' Zf Z0 : Addr → Prop} {H H' H0 : Hp} {σ : L2.St} {E E' : Ev} {R R' R0 : Rs}
def seqD : D → Option (List D)
  | .lst ds => some ds
  | .tup ds => some ds
  | .con ds => some ds
  | .scr ns => some (ns.map D.int)
  | _ => none
def mSq (f : Fe) : Fi := fun E => (f E).bind fun p => (tk p.2 p.1).bind fun q => (seqD q.1).map fun ds => (ds, q.2.2)
theorem iok_list {a : Addr} {vs : List V} {ds : List D} (z : Z a) (h : H a = some (.lst vs)) (r : Rps K Z H vs ds) : IOk K (Itl K a) ds Z H where
  go := fun Z2 H2 i p hi => by
    obtain ⟨v, hv, _⟩ := r.getD (List.getElem?_eq_getElem hi)
    exact ⟨vs, v, .inl (.inl (p.hz a _ z h)), hv⟩
  stop := fun Z2 H2 p => ⟨vs, .inl (.inl (p.hz a _ z h)), by rw [r.len]; exact Nat.le_refl _⟩
  yld := fun Z2 H2 i x H3 p hi y => by
    obtain ⟨e, y⟩ := y
    subst e
    have hx := y vs (.inl (.inl (p.hz a _ z h)))
    obtain ⟨d, hd, rd⟩ := (r.pers p).get hx
    exact ⟨.refl _, d, hd, rd⟩
theorem iok_scr {a : Addr} {vs : List V} {ds : List D} (h : SqF K H a vs) (r : Rps K Z H vs ds) : IOk K (Itl K a) ds Z H where
  go := fun Z2 H2 i p hi => by
    obtain ⟨v, hv, _⟩ := r.getD (List.getElem?_eq_getElem hi)
    exact ⟨vs, v, (p.sqF h).sq, hv⟩
  stop := fun Z2 H2 p => ⟨vs, (p.sqF h).sq, by rw [r.len]; exact Nat.le_refl _⟩
  yld := fun Z2 H2 i x H3 p hi y => by
    obtain ⟨e, y⟩ := y
    subst e
    have hx := y vs (p.sqF h).sq
    obtain ⟨d, hd, rd⟩ := (r.pers p).get hx
    exact ⟨.refl _, d, hd, rd⟩
theorem iok_tup {a : Addr} {vs : List V} {ds : List D} (h : ∀ Z2 H2, Pers Z H Z2 H2 → SqT K H2 a vs) (r : Rps K Z H vs ds) : IOk K (Itt K a) ds Z H where
  go := fun Z2 H2 i p hi => by
    obtain ⟨v, hv, _⟩ := r.getD (List.getElem?_eq_getElem hi)
    exact ⟨vs, v, h _ _ p, hv⟩
  stop := fun Z2 H2 p => ⟨vs, h _ _ p, by rw [r.len]; exact Nat.le_refl _⟩
  yld := fun Z2 H2 i x H3 p hi y => by
    obtain ⟨e, y⟩ := y
    subst e
    have hx := y vs (h _ _ p)
    obtain ⟨d, hd, rd⟩ := (r.pers p).get hx
    exact ⟨.refl _, d, hd, rd⟩
/-- an end, taken and frozen -/
theorem S.takeFrz (s : S K Z H σ E R) (t0 : Step Z0 H0 (ow R0) Z H (ow R)) {v : V} {o : Op} {d : D} {n : Nat} {rs : List Addr} (h : OV K Z H σ v o rs) (f : Fr R0 H0 R rs) (e : tk E o = some (d, n, E')) :
    ∃ Z' R', S K Z' H σ E' R' ∧ Step Z0 H0 (ow R0) Z' H (ow R') ∧ Rp K Z' H v d := by
  obtain ⟨Z2, R2, s2, t2, o2, n2, sub2⟩ := s.take h f.no e
  refine ⟨_, R2, s2.chill n2 o2.there, (t0.trans t2).fin (fun _ h => .inl h) (fun a z => ?_) (.refl _) fun a h => .inl h, o2.freeze ⟨fun _ h => .inl h, fun _ _ _ h => h, fun _ _ h _ => h⟩ fun a m => ⟨rfl, .inr m⟩⟩
  rcases z with z | z
  · exact .inl z
  · rcases f.of a z with z | z
    · exact .inr (.inr (.inl z))
    · exact .inr (.inr (.inr z))
theorem sq_of {f : Fe} {Rk : It → Hp → Prop} (q : iOf K (mSq f) σ H Rk) : iList K (eOf K f) σ H Rk ∨ iTup K (eOf K f) σ H Rk := by
  obtain ⟨Z, E, R, s, its, E', e, q⟩ := q
  unfold mSq at e
  cases e1 : f E with
  | none => rw [e1] at e; cases e
  | some p =>
    obtain ⟨o, E1⟩ := p
    rw [e1] at e
    simp only [Option.bind_some] at e
    cases e2 : tk E1 o with
    | none => rw [e2] at e; cases e
    | some p2 =>
      obtain ⟨d, n, E2⟩ := p2
      rw [e2] at e
      simp only [Option.bind_some] at e
      cases d with
      | lst ds =>
        cases e
        refine .inl ⟨Z, E, R, s, o, E1, e1, fun v Z1 H1 R1 rs s1 t1 ov f1 => ?_⟩
        obtain ⟨Z2, R2, s2, t2, r⟩ := s1.takeFrz t1 ov f1 e2
        cases r with
        | lst z h r => exact ⟨_, rfl, ⟨_, .inl (.inl h)⟩, q _ Z2 H1 R2 s2 t2 (iok_list z h r)⟩
      | scr ns =>
        cases e
        refine .inl ⟨Z, E, R, s, o, E1, e1, fun v Z1 H1 R1 rs s1 t1 ov f1 => ?_⟩
        obtain ⟨Z2, R2, s2, t2, r⟩ := s1.takeFrz t1 ov f1 e2
        cases r with
        | scr h => exact ⟨_, rfl, ⟨_, h.sq⟩, q _ Z2 H1 R2 s2 t2 (iok_scr h (Rps.ofInts ns))⟩
      | tup ds =>
        cases e
        refine .inr ⟨Z, E, R, s, o, E1, e1, fun v Z1 H1 R1 rs s1 t1 ov f1 => ?_⟩
        obtain ⟨Z2, R2, s2, t2, r⟩ := s1.takeFrz t1 ov f1 e2
        cases r with
        | tup h r => exact ⟨_, rfl, ⟨_, .of h⟩, q _ Z2 H1 R2 s2 t2 (iok_tup (fun Z3 H3 p => .of (p.tp _ _ h fun z => z)) r)⟩
      | con ds =>
        cases e
        refine .inr ⟨Z, E, R, s, o, E1, e1, fun v Z1 H1 R1 rs s1 t1 ov f1 => ?_⟩
        obtain ⟨Z2, R2, s2, t2, r⟩ := s1.takeFrz t1 ov f1 e2
        cases r with
        | con h r => exact ⟨_, rfl, ⟨_, h.sq⟩, q _ Z2 H1 R2 s2 t2 (iok_tup (fun Z3 H3 p => h.sq) r)⟩
      | _ => cases e
def rng (lo : Int) (n : Nat) : List D := (List.range n).map fun k => D.int (lo + (k : Nat))
@[simp] theorem rng_len (lo : Int) (n : Nat) : (rng lo n).length = n := by simp [rng]
def rgOk (j : Int) : Prop := -(2 ^ 62) ≤ j ∧ j < 2 ^ 62
instance (j : Int) : Decidable (rgOk j) := inferInstanceAs (Decidable (_ ∧ _))
def mRg1 (a : Fe) : Fi := fun E => (a E).bind fun p => (rd p.2 p.1).bind fun d => match d with
  | .int j => if rgOk j then some (rng 0 j.toNat, p.2) else none
  | _ => none
theorem iok_rng (lo : Int) (n : Nat) : IOk K (Itr lo n) (rng lo n) Z H where
  go := fun Z2 H2 i p hi => by
    have h : i < n := by simpa using hi
    exact h
  stop := fun Z2 H2 p => by simp [Itr]
  yld := fun Z2 H2 i x H3 p hi y => by
    obtain ⟨e, y⟩ := y
    subst e y
    have hi : i < n := by simpa using hi
    exact ⟨.refl _, .int (lo + i), by simp [rng, hi], .int _⟩
theorem rg1_of {a : Fe} {Rk : It → Hp → Prop} (q : iOf K (mRg1 a) σ H Rk) : eOf K a σ H fun v H1 => ∃ j : Int, v = .int j ∧ -(2 ^ 62) ≤ j ∧ j < 2 ^ 62 ∧ Rk (Itr 0 j.toNat) H1 := by
  obtain ⟨Z, E, R, s, its, E', e, q⟩ := q
  unfold mRg1 at e
  cases e1 : a E with
  | none => rw [e1] at e; cases e
  | some p =>
    obtain ⟨o, E1⟩ := p
    rw [e1] at e
    simp only [Option.bind_some] at e
    cases e2 : rd E1 o with
    | none => rw [e2] at e; cases e
    | some d =>
      rw [e2] at e
      simp only [Option.bind_some] at e
      split at e
      · split at e
        · rename_i hj
          cases e
          refine ⟨Z, E, R, s, o, _, e1, fun v Z1 H1 R1 rs s1 t1 ov f1 => ⟨_, (s1.read ov e2).intE, hj.1, hj.2, q _ Z1 H1 R1 s1 t1 (iok_rng _ _)⟩⟩
        · cases e
      · cases e
theorem Own.dE {n : Nat} {v : V} {d : D} {rs : List Addr} (h : Own K Z H (n + 1) v d rs) (nd : rs.Nodup) : (∀ kds, d = .dK kds → ∃ a kvs, v = .ref a ∧ H a = some (.dK kvs) ∧ ¬ Z a ∧ a ∈ rs ∧ KR K (fun b => Z b ∨ (b ∈ rs ∧ b ≠ a)) H kvs kds ∧ (imms (kds.map (·.2)) = true → KR K Z H kvs kds)) ∧
    (∀ kds, d = .dT kds → ∃ a kvs, v = .ref a ∧ H a = some (.dT kvs) ∧ ¬ Z a ∧ a ∈ rs ∧ KR K (fun b => Z b ∨ (b ∈ rs ∧ b ≠ a)) H kvs kds ∧ (imms (kds.map (·.2)) = true → KR K Z H kvs kds)) := by
  have go : ∀ (a : Addr) (rss : List (List Addr)) (vs : List V) (ds : List D), rs = a :: rss.flatten → All3 (Own K Z H n) vs ds rss → Rps K (fun b => Z b ∨ (b ∈ rs ∧ b ≠ a)) H vs ds := fun a rss vs ds er al => by
    have p : Pers Z H (fun b => Z b ∨ (b ∈ rs ∧ b ≠ a)) H := ⟨fun _ h => .inl h, fun _ _ _ h => h, fun _ _ h _ => h⟩
    rw [er] at nd
    have n1 := (List.nodup_cons.mp nd).1
    exact All3.rps (R := fun _ _ => True) (P := fun v d _ => Rp K (fun b => Z b ∨ (b ∈ rs ∧ b ≠ a)) H v d) (fun _ _ _ h => h) (al.imp fun v d rs' m o => o.freeze p fun b hb => ⟨rfl, .inr ⟨by rw [er]; exact List.mem_cons_of_mem _ (mem_flatten_of m hb), fun e => n1 (by rw [← e]; exact mem_flatten_of m hb)⟩⟩)
  constructor
  · rintro kds rfl
    obtain ⟨a, kvs, rss, e, ha, z, e2, al, er⟩ := h
    exact ⟨a, kvs, e, ha, z, by rw [er]; exact List.mem_cons_self, ⟨e2, go a rss _ _ er al⟩, fun i => ⟨e2, (al.immRps i).1⟩⟩
  · rintro kds rfl
    obtain ⟨a, kvs, rss, e, ha, z, e2, al, er⟩ := h
    exact ⟨a, kvs, e, ha, z, by rw [er]; exact List.mem_cons_self, ⟨e2, go a rss _ _ er al⟩, fun i => ⟨e2, (al.immRps i).1⟩⟩
/-- the depth of a dict behind a store -/
def updl {κ : Type} (n : Nat) (kds : List (κ × D)) (dv : D) : Nat := if imms (kds.map (·.2)) = true ∧ imm dv = true then n else 1
theorem imms_put {κ : Type} [DecidableEq κ] {kds : List (κ × D)} {k : κ} {dv : D} (h : imms (kds.map (·.2)) = true) (i : imm dv = true) : imms ((putD kds k dv).map (·.2)) = true := by
  rw [imms_all, List.all_eq_true] at h ⊢
  intro x hx
  unfold putD at hx
  split at hx
  · rw [List.map_map] at hx
    obtain ⟨p, hp, e⟩ := List.mem_map.mp hx
    simp only [Function.comp_apply] at e
    split at e
    · subst e; exact i
    · subst e; exact h _ (List.mem_map.mpr ⟨p, hp, rfl⟩)
  · rw [List.map_append, List.mem_append] at hx
    rcases hx with hx | hx
    · exact h x hx
    · have : x = dv := by simpa using hx
      rw [this]; exact i
/-- a store into the owned dict of slot i: con tells the kind of dict -/
theorem S.dput {κ : Type} [DecidableEq κ] (conD : List (κ × D) → D) (conH : List (κ × V) → HO) (s : S K Z H σ E R) (t0 : Step Z0 H0 (ow R0) Z H (ow R)) {i : Nat} {kds : List (κ × D)} {n : Nat} (e : eg E i = some (conD kds, n + 1))
    (dE : ∀ {v : V} {rs : List Addr}, Own K Z H (n + 1) v (conD kds) rs → rs.Nodup → ∃ a kvs, v = .ref a ∧ H a = some (conH kvs) ∧ ¬ Z a ∧ a ∈ rs ∧ KR K (fun b => Z b ∨ (b ∈ rs ∧ b ≠ a)) H kvs kds ∧ (imms (kds.map (·.2)) = true → KR K Z H kvs kds))
    (mk : ∀ {Z : Addr → Prop} {H : Hp} {a : Addr} {kvs : List (κ × V)} {kds : List (κ × D)} {m : Nat}, H a = some (conH kvs) → ¬ Z a → kvs.map (·.1) = kds.map (·.1) → All3 (Own K Z H m) (kvs.map (·.2)) (kds.map (·.2)) ((kds.map (·.2)).map fun _ => []) → Own K Z H (m + 1) (.ref a) (conD kds) [a])
    {v : V} {dv : D} {nv : Nat} {rv : List Addr} (hv : Own K Z H nv v dv rv) (fr : Fr R0 H0 R rv) (k : κ) (mutH : ∀ kvs, Mut (some (conH kvs))) :
    ∃ a kvs, σ[i]? = some (some (.ref a)) ∧ H a = some (conH kvs) ∧ kvs.length = kds.length ∧ ∃ Zf rs', S K Zf (upd H a (conH (putK kvs k v))) σ (E.set i (some (conD (putD kds k dv), updl (n + 1) kds dv))) (put R i rs') ∧
      Step Z0 H0 (ow R0) Zf (upd H a (conH (putK kvs k v))) (ow (put R i rs')) := by
  obtain ⟨w, e1, o1⟩ := s.slot i _ _ e
  obtain ⟨a, kvs, rfl, ha, nz, aR, kr, kri⟩ := dE o1 (s.nd i)
  refine ⟨a, kvs, e1, ha, kr.len, ?_⟩
  have aow : ow R a := ⟨i, aR⟩
  have pz : ∀ {Z1 : Addr → Prop}, ¬ Z1 a → Pers Z1 H Z1 (upd H a (conH (putK kvs k v))) := fun nz1 => ⟨fun _ h => h, fun b o z e => by
    have ne : b ≠ a := fun e2 => nz1 (by rw [← e2]; exact z)
    rw [upd_ne ne]; exact e, fun b o e n => by
    have ne : b ≠ a := fun e2 => n (by rw [e2, ha] at e; cases e; exact mutH _)
    rw [upd_ne ne]; exact e⟩
  unfold updl
  split
  · rename_i hc
    obtain ⟨rfl, rvp⟩ := hv.imm hc.2
    have kr2 := ((kri hc.1).put k rvp)
    have kr3 : KR K Z (upd H a (conH (putK kvs k v))) (putK kvs k v) (putD kds k dv) := ⟨kr2.1, kr2.2.pers (pz nz)⟩
    have new := mk (Z := Z) (m := n) (upd_same (H := H) (a := a)) nz kr3.1 (All3.ofRpsI kr3.2 (imms_put hc.1 hc.2))
    have inR : ∀ b ∈ [a], b ∈ R i ∨ b ∈ ([] : List Addr) := fun b m => by
      have e : b = a := by simpa using m
      exact .inl (by rw [e]; exact aR)
    exact ⟨Z, [a], s.write t0 (ts := []) (eg_lt e) e1 aR new (fun _ h => h) (fun b z => .inl z) inR (by simp) (fun b m => by simp at m) (fun b m => by simp at m) fun b m => by simp at m⟩
  · have p : Pers Z H (fun b => Z b ∨ (b ∈ R i ∧ b ≠ a) ∨ b ∈ rv) H := ⟨fun _ h => .inl h, fun _ _ _ h => h, fun _ _ h _ => h⟩
    have nzf : ¬ (Z a ∨ (a ∈ R i ∧ a ≠ a) ∨ a ∈ rv) := fun z => by
      rcases z with z | z | z
      · exact nz z
      · exact z.2 rfl
      · exact fr.no a z aow
    have rvp : Rp K (fun b => Z b ∨ (b ∈ R i ∧ b ≠ a) ∨ b ∈ rv) H v dv := hv.freeze p fun b hb => ⟨rfl, .inr (.inr hb)⟩
    have kr1 : KR K (fun b => Z b ∨ (b ∈ R i ∧ b ≠ a) ∨ b ∈ rv) H kvs kds := ⟨kr.1, kr.2.pers ⟨fun b z => z.elim .inl fun z => .inr (.inl z), fun _ _ _ h => h, fun _ _ h _ => h⟩⟩
    have kr2 := kr1.put k rvp
    have kr3 : KR K (fun b => Z b ∨ (b ∈ R i ∧ b ≠ a) ∨ b ∈ rv) (upd H a (conH (putK kvs k v))) (putK kvs k v) (putD kds k dv) := ⟨kr2.1, kr2.2.pers (pz nzf)⟩
    have new := mk (m := 0) (upd_same (H := H) (a := a)) nzf kr3.1 (All3.ofRps0 kr3.2)
    refine ⟨_, [a], s.write t0 (ts := rv) (eg_lt e) e1 aR new (fun _ h => .inl h) (fun b z => ?_) (fun b m => .inl ?_) (by simp) fr.no hv.there fr.of⟩
    · rcases z with z | z | z
      · exact .inl z
      · exact .inr (.inl z.1)
      · exact .inr (.inr z)
    · have e : b = a := by simpa using m
      rw [e]; exact aR
/-- slot x [k] = v, by data -/
def putAt (E : Ev) (x : Nat) (k dv : D) (nv : Nat) : Option Ev := match eg E x with
  | some (.lst ds, n + 1) => match k with
    | .int i => (ixN ds.length i).map fun j => E.set x (some (.lst (ds.set j dv), upl (n + 1) (.lst ds) dv nv))
    | _ => none
  | some (.dK kds, n + 1) => (keyOf k).bind fun k => if kds.length < sizeLine then some (E.set x (some (.dK (putD kds k dv), updl (n + 1) kds dv))) else none
  | some (.dT kds, n + 1) => match k with
    | .tup ks => (keysOf ks).bind fun k => if kds.length < sizeLine then some (E.set x (some (.dT (putD kds k dv), updl (n + 1) kds dv))) else none
    | _ => none
  | _ => none
theorem S.putAt (s : S K Z H σ E R) (t0 : Step Z0 H0 (ow R0) Z H (ow R)) {x : Nat} {k dv : D} {nv : Nat} (e : Zk.putAt E x k dv nv = some E') {v kv : V} {rv : List Addr} (hv : Own K Z H nv v dv rv) (fr : Fr R0 H0 R rv) (hk : Rp K (fun _ => True) H kv k) :
    ∃ w, σ[x]? = some (some w) ∧ ∀ Q : Hp → Prop, (∀ Zf H' R', S K Zf H' σ E' R' → Step Z0 H0 (ow R0) Zf H' (ow R') → Q H') → rSetL w kv v H Q ∨ rSetD w kv v H Q := by
  unfold Zk.putAt at e
  split at e
  · rename_i ds n g
    split at e
    · rename_i i
      cases e1 : ixN ds.length i with
      | none => rw [e1] at e; cases e
      | some j =>
        rw [e1] at e
        cases e
        obtain ⟨a, vs, h1, h2, h3, Zf, rs', s', t'⟩ := s.edit t0 g hv fr (fun vs => vs.set j v) (fun ds => ds.set j dv) (fun rss rv => rss.set j rv) (fun Z H m vs rss rv al ho => al.set ho j) (fun rss rv h1 h2 h3 =>
          ⟨nodup_set_flat j h1 h2 h3, fun a m => nodup_set_flat.mem_set_flat j m⟩)
        cases hk.intE
        exact ⟨_, h1, fun Q q => .inl ⟨a, vs, i, j, rfl, rfl, h2, by rw [h3]; exact e1, q _ _ _ s' t'⟩⟩
    · cases e
  · rename_i kds n g
    cases e1 : keyOf k with
    | none => rw [e1] at e; cases e
    | some k' =>
      rw [e1] at e
      simp only [Option.bind_some] at e
      split at e
      · rename_i hl
        cases e
        obtain ⟨a, kvs, h1, h2, h3, Zf, rs', s', t'⟩ := s.dput D.dK HO.dK t0 g (fun o nd => (o.dE nd).1 kds rfl) (fun {Z H a kvs kds m} h z e al => ⟨a, kvs, _, rfl, h, z, e, al, by rw [flat_nils]⟩) hv fr k' (fun _ => trivial)
        cases key_kV hk e1
        exact ⟨_, h1, fun Q q => .inr ⟨a, _, rfl, .k h2 (by rw [h3]; exact hl), q _ _ _ s' t'⟩⟩
      · cases e
  · rename_i kds n g
    split at e
    · rename_i ks
      cases e1 : keysOf ks with
      | none => rw [e1] at e; cases e
      | some k' =>
        rw [e1] at e
        simp only [Option.bind_some] at e
        split at e
        · rename_i hl
          cases e
          obtain ⟨a, kvs, h1, h2, h3, Zf, rs', s', t'⟩ := s.dput D.dT HO.dT t0 g (fun o nd => (o.dE nd).2 kds rfl) (fun {Z H a kvs kds m} h z e al => ⟨a, kvs, _, rfl, h, z, e, al, by rw [flat_nils]⟩) hv fr k' (fun _ => trivial)
          cases hk with
          | tup hb rb =>
            cases keys_kV rb e1
            exact ⟨_, h1, fun Q q => .inr ⟨a, _, rfl, .t h2 hb (by rw [h3]; exact hl), q _ _ _ s' t'⟩⟩
        · cases e
    · cases e
  · cases e
/-- x[k] = v -/
def mPut (x : Nat) (fk fv : Fe) : Fs := fun E => (fv E).bind fun pv => if (eg pv.2 x).isSome = true then (fk pv.2).bind fun pk => (rd pk.2 pk.1).bind fun k => (tk pk.2 pv.1).bind fun q => (putAt q.2.2 x k q.1 q.2.1).map fun E' => (.nx, E') else none
theorem put_of {x : Nat} {fk fv : Fe} {w : List Nat} {D : Ends} (q : sOf K w (mPut x fk fv) D σ H) : eOf K fv σ H fun v H1 => ∃ y, σ[x]? = some (some y) ∧ eOf K fk σ H1 fun kv H2 => rSetL y kv v H2 (fun H3 => D.nx σ H3) ∨ rSetD y kv v H2 fun H3 => D.nx σ H3 := by
  obtain ⟨Z, E, R, s, fl, E', e, q⟩ := q
  unfold mPut at e
  cases e1 : fv E with
  | none => rw [e1] at e; cases e
  | some p =>
    obtain ⟨o, E1⟩ := p
    rw [e1] at e
    simp only [Option.bind_some] at e
    split at e
    · rename_i hs
      cases e2 : fk E1 with
      | none => rw [e2] at e; cases e
      | some p2 =>
        obtain ⟨o2, E2⟩ := p2
        rw [e2] at e
        simp only [Option.bind_some] at e
        cases e3 : rd E2 o2 with
        | none => rw [e3] at e; cases e
        | some k =>
          rw [e3] at e
          simp only [Option.bind_some] at e
          cases e4 : tk E2 o with
          | none => rw [e4] at e; cases e
          | some p4 =>
            obtain ⟨dv, nv, E3⟩ := p4
            rw [e4] at e
            simp only [Option.bind_some] at e
            cases e5 : Zk.putAt E3 x k dv nv with
            | none => rw [e5] at e; cases e
            | some E5 =>
              rw [e5] at e
              cases e
              refine ⟨Z, E, R, s, o, E1, e1, fun v Z1 H1 R1 rs s1 t1 ov f1 => ?_⟩
              cases g : eg E1 x with
              | none => rw [g] at hs; simp at hs
              | some dn =>
                obtain ⟨y, ey, _⟩ := s1.slot x dn.1 dn.2 g
                refine ⟨y, ey, Z1, E1, R1, s1, o2, E2, e2, fun kv Z2 H2 R2 rs2 s2 t2 ov2 f2 => ?_⟩
                obtain ⟨pe, pn⟩ := s1.pendO t2 ov f1.no
                have rk := s2.read ov2 e3
                obtain ⟨Z3, R3, s3, t3, o3, n3, sub3⟩ := s2.take pe pn e4
                obtain ⟨w, ew, c⟩ := s3.putAt ((t1.trans t2).trans t3) e5 o3 ⟨f1.nd, n3, f1.of⟩ rk
                rw [ey] at ew
                cases ew
                exact c _ fun Zf H' R' s' t' => q σ Zf H' R' s' t' fun _ _ => rfl
    · cases e
end
section
variable {X : Cx}
theorem PSet.or {t u : TSet} (h : PSet X t) (h' : PSet X u) : PSet X fun o i v H Q => t o i v H Q ∨ u o i v H Q := fun pins s σ H o i v ov iv w Q I r1 r2 r3 q =>
  q.elim (h pins s σ H o i v ov iv w Q I r1 r2 r3) (h' pins s σ H o i v ov iv w Q I r1 r2 r3)
theorem PG.or {tg : Expr} {t u : TG} (h : PG X tg t) (h' : PG X tg u) : PG X tg fun v σ H Q => t v σ H Q ∨ u v σ H Q := ⟨fun pins s σ H v x Q I r q => q.elim (h.run pins s σ H v x Q I r) (h'.run pins s σ H v x Q I r)⟩
theorem PI.or {tg iter : Expr} {t u : TI} (h : PI X tg iter t) (h' : PI X tg iter u) : PI X tg iter fun σ H R => t σ H R ∨ u σ H R := ⟨fun pins s σ H R I q => q.elim (h.run pins s σ H R I) (h'.run pins s σ H R I)⟩
variable {e e2 c : Expr} {es : List Expr} {fe fk fv : Fe} {ft : Ft} {fi : Fi} {g : Fg} {gs : List D → Ev → Option Ev} {pos pos' : PySem.Pos} {st : Stmt} {rest body : List Stmt} {w w1 w2 : List Nat} {f f1 f2 : Fs} {x : Str}
theorem as_set (i : Nat) {x : Str} (he : AE X e fe) (hN : X.N.Nodup) (hi : X.N[i]? = some x := by rfl) (hx : Loc X.env.scope x := by first | exact Or.inl rfl | exact Or.inr rfl) (hs : swapsWith e (some (.Name x pos')) pos.line X.env = pure false := by rfl)
    (hf : X.fn x = true ∨ X.env.scope.names.lookup x = some .local := by first | exact .inl rfl | exact .inr rfl) : AS X (.Assign [.Name x pos'] e pos) [i] (mSet i fe) := PS.mono (ps_set hN hi hx he hs hf) fun D σ H q => set_of q
theorem as_ret (he : AE X e fe) : AS X (.Return (some e) pos) w (mRet fe) := PS.mono (ps_ret he) fun D σ H q => ret_of q
theorem as_ex (he : AE X e fe) (hs : swapsWith e none pos.line X.env = pure false := by rfl) : AS X (.Expr e pos) w (mEx fe) := PS.mono (ps_expr he hs) fun D σ H q => ex_of q
theorem ass_nil : ASs X [] w mNx := PSs.mono pss_nil fun D σ H q => by
  obtain ⟨Z, E, R, s, fl, E', e, q⟩ := q
  cases e
  exact q σ Z H R s .refl fun _ _ => rfl
theorem ass_cons (h1 : AS X st w1 f1) (h2 : ASs X rest w2 f2) : ASs X (st :: rest) (w1 ++ w2) (mSeq f1 f2) := PSs.mono (pss_cons h1 h2) fun D σ H q => seq_of (fun i m => List.mem_append.mpr (.inl m)) (fun i m => List.mem_append.mpr (.inr m)) q
theorem ass_one (h1 : AS X st w f) : ASs X [st] w f := pss_one h1
theorem as_if (hc : AT X c ft) (ha : ASs X body w1 f1) (hb : ASs X rest w2 f2) : AS X (.If c body rest pos) (w1 ++ w2) (mIfS ft f1 f2) := PS.mono (ps_if hc ha hb) fun D σ H q => if_of (fun i m => List.mem_append.mpr (.inl m)) (fun i m => List.mem_append.mpr (.inr m)) q
abbrev AG (X : Cx) (target : Expr) (w : List Nat) (g : Fg) : Prop := PG X target (gOf X.K w g)
abbrev AGs (X : Cx) (ts : List Expr) (w : List Nat) (gs : List D → Ev → Option Ev) : Prop := PGs X ts (gsOf X.K w gs)
theorem PG.mono {t : Expr} {g g' : TG} (h : PG X t g) (m : ∀ v σ H Q, g' v σ H Q → g v σ H Q) : PG X t g' := ⟨fun pins s σ H v u Q I r q => h.run pins s σ H v u Q I r (m v σ H Q q)⟩
theorem PGs.mono {t : List Expr} {g g' : TGs} (h : PGs X t g) (m : ∀ v σ H Q, g' v σ H Q → g v σ H Q) : PGs X t g' := ⟨fun pins s σ H v u Q I r q => h.run pins s σ H v u Q I r (m v σ H Q q)⟩
theorem ag_n (i : Nat) {x : Str} (hN : X.N.Nodup) (hi : X.N[i]? = some x := by rfl) (hx : Loc X.env.scope x := by first | exact Or.inl rfl | exact Or.inr rfl) (hf : X.fn x = true ∨ X.env.scope.names.lookup x = some .local := by first | exact .inl rfl | exact .inr rfl) :
    AG X (.Name x pos) [i] (tgV i) := PG.mono (pg_name hN hi hx hf) fun v σ H Q q => gn_of q
theorem ags_nil : AGs X [] [] tgN := PGs.mono pgs_nil fun v σ H Q q => gnil_of q
theorem ags_cons (h1 : AG X e w1 g) (h2 : AGs X es w2 gs) (hs : (assignEach (e :: es) X.env).map (·.2) = assign e X.env :: (assignEach es X.env).map (·.2) := by rfl) : AGs X (e :: es) (w1 ++ w2) (tgC g gs) :=
  PGs.mono (pgs_cons h1 h2 hs) fun v σ H Q q => gcons_of (fun i m => List.mem_append.mpr (.inl m)) (fun i m => List.mem_append.mpr (.inr m)) q
theorem ag_t {k n : Nat} (h : AGs X es w gs) (hc : X.calm = true := by rfl) (hn : (assignEach es X.env).length = n := by rfl) (hst : (assignEach es X.env).findIdx? (·.1) = none := by rfl) : AG X (.Tuple es k pos) w (tgT n gs) :=
  PG.mono (PG.or (pg_tup hc h hn hst) (pg_unl hc h hn hst)) fun v σ H Q q => gt_of q
theorem as_asg {tg : Expr} (he : AE X e fe) (hg : AG X tg w g) (hs : swapsWithSole [tg] e pos.line X.env = pure false := by rfl) (hw : swappedStores [tg] e X.env = pure none := by rfl)
    (h1 : (assignEach [tg] X.env).map (·.2) = [assign tg X.env] := by rfl) : AS X (.Assign [tg] e pos) w (mAsg g fe) := PS.mono (ps_asg he hg hs hw h1) fun D σ H q => asg_of q
theorem as_for {tg iter : Expr} (hp : PassesOwn (model X.prog X.w) X.A X.env X.xe) (hi : AI X tg iter fi) (hg : AG X tg w1 g) (hb : ASs X body w2 f) (hc : X.calm = true := by rfl) (hs : ∀ x, foldedSetIterable iter X.env x = pure x := by intro _; rfl) :
    AS X (.For tg iter body [] pos) (w1 ++ w2) (mFor fi g f) := PS.mono (ps_for hp hc hi hg hb hs) fun D σ H q => for_of (fun i m => List.mem_append.mpr (.inl m)) (fun i m => List.mem_append.mpr (.inr m)) q
theorem ai_seq {tg : Expr} (he : AE X e fe) : AI X tg e (mSq fe) := PI.mono (PI.or (pi_list he) (pi_tup he)) fun σ H R q => sq_of q
theorem ai_rg1 {tg : Expr} {p : PySem.Pos} (ha : AE X e fe) (hg : Gl X "range") (hm : X.mg "range" = none) (hs : starEach [e] X.env = [(false, eval e X.env)] := by rfl) : AI X tg (.Call (.Name "range" p) [e] [] pos) (mRg1 fe) :=
  PI.mono (pi_range1 hg hm (pa_cons ha pa_nil hs) hs) fun σ H R q => eOf_imp (fun v H1 ⟨j, e, a, b, c⟩ => ⟨j, by rw [e], a, b, c⟩) (rg1_of q)
theorem as_put (j : Nat) {x : Str} {px pt : PySem.Pos} (hu : X.A.units + 1 < cLine) (hk : AE X e fk) (hv : AE X e2 fv) (hN : X.N[j]? = some x := by rfl) (hvis : Vis X.env.scope x := by first | exact Or.inl rfl | exact Or.inr (Or.inl rfl) | exact Or.inr (Or.inr rfl))
    (hd : (x == ("__debug__" : Str)) = false := by decide) (hcd : (x == ("__classdict__" : Str)) = false := by decide)
    (ha : ∀ v, assign (.Subscript (.Name x px) e pt) X.env v = (do
      let ov ← holding [v] (eval (.Name x px) X.env)
      let iv ← holding [v, ov] (eval e X.env)
      standAt pt
      holding [v, ov, iv] (setItem ov iv v)
      release [v, ov, iv] []) := by intro _; rfl)
    (hs : swapsWithSole [.Subscript (.Name x px) e pt] e2 pos.line X.env = pure false := by rfl) (hw : swappedStores [.Subscript (.Name x px) e pt] e2 X.env = pure none := by rfl)
    (h1 : (assignEach [.Subscript (.Name x px) e pt] X.env).map (·.2) = [assign (.Subscript (.Name x px) e pt) X.env] := by rfl) : AS X (.Assign [.Subscript (.Name x px) e pt] e2 pos) w (mPut j fk fv) :=
  PS.mono (ps_asg hv (pg_sub (pe_var hN hvis hd hcd) hk (PSet.or set_list (set_dict hu)) ha) hs hw h1) fun D σ H q => put_of q
end
end Zk
namespace Zk
open PySem PySem.Spec PyProof.Rows L2

/-- a def by data: from the arguments its end, how deep it is new, and the changed argument behind it -/
abbrev Mir := List D → Option (D × Nat × D)
section
variable {K : PySem.W.Frag} {Z Z' Zf Z0 : Addr → Prop} {H H' H0 : Hp} {σ : L2.St} {E E' : Ev} {R R' R0 : Rs}
/-- the promise: the argument at io may be changed (it is flat, and ours), the others are frozen -/
def spM (K : PySem.W.Frag) (io : Option Nat) (np : Nat) (M : Mir) : Sp := fun vs H Q _ => ∃ (Z : Addr → Prop) (ds : List D) (rs : Rs), vs.length = np ∧ ds.length = np ∧ (∀ a, Z a → H a ≠ none) ∧
  (∀ i v d, vs[i]? = some v → ds[i]? = some d → if io = some i then flat d = true ∧ Own K Z H 1 v d (rs i) else Rp K Z H v d) ∧ (∀ i, (io = some i → np ≤ i) → rs i = []) ∧ (∀ i, (rs i).Nodup) ∧
  ∃ d n out, M ds = some (d, n, out) ∧ ∀ v Z' H' rs' rr, Step Z H (ow rs) Z' H' (ow rs') → (∀ a, Z' a → H' a ≠ none) →
    (∀ i w, io = some i → vs[i]? = some w → flat out = true ∧ Own K Z' H' 1 w out (rs' i)) → (∀ i, io ≠ some i → rs' i = []) → (∀ i, (rs' i).Nodup) → Own K Z' H' n v d rr → Fr rs H rs' rr → Q v H'
/-- the slots at the entry -/
def ent (io : Option Nat) : Nat → List D → Ev
  | _, [] => []
  | i, d :: ds => some (d, if io = some i then 1 else 0) :: ent io (i + 1) ds
theorem ent_len (io : Option Nat) : ∀ (i : Nat) (ds : List D), (ent io i ds).length = ds.length
  | _, [] => rfl
  | i, d :: ds => by simp [ent, ent_len io (i + 1) ds]
theorem ent_get (io : Option Nat) : ∀ (i : Nat) (ds : List D) (j : Nat), (ent io i ds)[j]? = (ds[j]?).map fun d => some (d, if io = some (i + j) then 1 else 0)
  | _, [], j => by simp [ent]
  | i, d :: ds, 0 => by simp [ent]
  | i, d :: ds, j + 1 => by
    simp only [ent, List.getElem?_cons_succ]
    rw [ent_get io (i + 1) ds j]
    have e : i + 1 + j = i + (j + 1) := by omega
    rw [e]
def ent0 (io : Option Nat) (N : Nat) (ds : List D) : Ev := ent io 0 ds ++ List.replicate (N - ds.length) none
/-- what stands at the changed slot -/
def outAt (io : Option Nat) (E : Ev) : Option D := match io with
  | none => some .non
  | some i => match eg E i with
    | some (d, n + 1) => if flat d = true then some d else none
    | _ => none
def mDef (io : Option Nat) (N : Nat) (f : Fs) : Mir := fun ds => (f (ent0 io N ds)).bind fun p => match p.1 with
  | .nx => (outAt io p.2).map fun o => (.non, 9, o)
  | .rt d n => (outAt io p.2).map fun o => (d, n, o)
  | _ => none
theorem Own.flatTo {n m : Nat} {v : V} {d : D} {rs : List Addr} (f : flat d = true) (h : Own K Z H (n + 1) v d rs) (nz : ∀ a ∈ rs, ¬ Z' a) : Own K Z' H (m + 1) v d rs := by
  have tp : ∀ a o, H a = some o → ¬ Mut (some o) → H a = some o := fun _ _ h _ => h
  cases d with
  | lst ds =>
    have i : imms ds = true := by simpa [flat] using f
    obtain ⟨a, vs, rss, e, ha, z, al, er⟩ := h
    obtain ⟨r, e2⟩ := al.immRps i
    subst er
    exact ⟨a, vs, _, e, ha, nz a List.mem_cons_self, All3.ofRpsI (r.immz tp i) i, by rw [e2, flat_nils]⟩
  | dK ds =>
    have i : imms (ds.map (·.2)) = true := by simpa [flat] using f
    obtain ⟨a, vs, rss, e, ha, z, e1, al, er⟩ := h
    obtain ⟨r, e2⟩ := al.immRps i
    subst er
    exact ⟨a, vs, _, e, ha, nz a List.mem_cons_self, e1, All3.ofRpsI (r.immz tp i) i, by rw [e2, flat_nils]⟩
  | dT ds =>
    have i : imms (ds.map (·.2)) = true := by simpa [flat] using f
    obtain ⟨a, vs, rss, e, ha, z, e1, al, er⟩ := h
    obtain ⟨r, e2⟩ := al.immRps i
    subst er
    exact ⟨a, vs, _, e, ha, nz a List.mem_cons_self, e1, All3.ofRpsI (r.immz tp i) i, by rw [e2, flat_nils]⟩
  | set xs =>
    obtain ⟨a, T, k, e, ha, z, e1, e2, e3, er⟩ := h
    subst er
    exact ⟨a, T, k, e, ha, nz a (by simp), e1, e2, e3, rfl⟩
  | _ => simp [flat] at f
/-- a def's body: its promise -/
theorem body_of {io : Option Nat} {N : List Str} {w : List Nat} {f : Fs} {vs : List V} {np : Nat} {Q : VK} {X : XK} (hN : np ≤ N.length) (hio : ∀ i, io = some i → i ∉ w) (q : spM K io np (mDef io N.length f) vs H Q X) :
    sOf K w f { nx := fun _ H' => Q .non H', rt := Q } (L2.start N vs) H := by
  obtain ⟨Z, ds, rs, lv, ld, hz, args, rn, rnd, d, n, out, e, q⟩ := q
  have st : ∀ i, (L2.start N vs)[i]? = if i < np then (vs[i]?).map some else if i < N.length then some none else none := fun i => by
    unfold L2.start
    by_cases h : i < np
    · rw [if_pos h, List.getElem?_append_left (by simp; omega), List.getElem?_map]
    · rw [if_neg h, List.getElem?_append_right (by simp; omega), List.getElem?_replicate]
      simp only [List.length_map]
      split <;> split <;> first | rfl | omega
  have se : ∀ i, eg (ent0 io N.length ds) i = (ds[i]?).map fun d => (d, if io = some i then 1 else 0) := fun i => by
    unfold eg ent0
    by_cases h : i < ds.length
    · rw [List.getElem?_append_left (by rw [ent_len]; exact h), ent_get]
      cases ds[i]? <;> simp
    · rw [List.getElem?_append_right (by rw [ent_len]; omega), List.getElem?_replicate, List.getElem?_eq_none (by omega)]
      split <;> rfl
  have s : S K Z H (L2.start N vs) (ent0 io N.length ds) rs := by
    refine ⟨?_, fun i d n e => ?_, fun i e => ?_, rnd, fun i j a h1 h2 => ?_, hz⟩
    · unfold L2.start ent0
      simp [ent_len, lv, ld]
    · rw [se] at e
      cases g : ds[i]? with
      | none => rw [g] at e; cases e
      | some d' =>
        rw [g] at e
        cases e
        have hi : i < np := by have := (List.getElem?_eq_some_iff.mp g).1; omega
        have hv : i < vs.length := by omega
        refine ⟨vs[i], by rw [st, if_pos hi, List.getElem?_eq_getElem hv]; rfl, ?_⟩
        have a := args i vs[i] _ (List.getElem?_eq_getElem hv) g
        by_cases c : io = some i
        · rw [if_pos c] at a ⊢; exact a.2
        · rw [if_neg c] at a ⊢; exact ⟨rn i (fun z => absurd z c), a⟩
    · by_cases c : io = some i
      · rw [se] at e
        cases g : ds[i]? with
        | some d' => rw [g] at e; cases e
        | none =>
          have hi : ¬ i < np := by
            intro h
            rw [List.getElem?_eq_getElem (by omega)] at g; cases g
          exact rn i fun _ => by omega
      · exact rn i fun z => absurd z c
    · by_cases c1 : io = some i
      · by_cases c2 : io = some j
        · rw [c1] at c2; exact Option.some.inj c2
        · rw [rn j (fun z => absurd z c2)] at h2; simp at h2
      · rw [rn i (fun z => absurd z c1)] at h1; simp at h1
  unfold mDef at e
  cases e1 : f (ent0 io N.length ds) with
  | none => rw [e1] at e; cases e
  | some p =>
    obtain ⟨fl, E'⟩ := p
    rw [e1] at e
    simp only [Option.bind_some] at e
    refine ⟨Z, _, rs, s, fl, E', e1, fun σ' Z' H' R' s' t' k' => ?_⟩
    have fin : ∀ (d0 : D) (n0 : Nat), (outAt io E').map (fun o => (d0, n0, o)) = some (d, n, out) → ∀ v rr, Own K Z' H' n0 v d0 rr → Fr rs H R' rr → Q v H' := fun d0 n0 e v rr o fr => by
      cases g : outAt io E' with
      | none => rw [g] at e; cases e
      | some o' =>
        rw [g] at e
        cases e
        refine q v Z' H' (fun i => if io = some i then R' i else []) rr ⟨t'.zz, t'.zn, t'.hh, fun a ⟨i, h⟩ => ?_, t'.dm⟩ s'.zd (fun i w hio' hw => ?_) (fun i hi => if_neg hi) (fun i => ?_) o ⟨fr.nd, fun a m ⟨i, h⟩ => ?_, fr.of⟩
        · simp only at h
          split at h
          · exact t'.on a ⟨i, h⟩
          · simp at h
        · subst hio'
          simp only [outAt] at g
          cases g2 : eg E' i with
          | none => rw [g2] at g; cases g
          | some dn =>
            obtain ⟨d1, n1⟩ := dn
            cases n1 with
            | zero => rw [g2] at g; cases g
            | succ n1 =>
              rw [g2] at g
              simp only at g
              split at g
              · rename_i hf
                cases g
                obtain ⟨u, hu, ou⟩ := s'.slot i _ _ g2
                have hi : i < vs.length := (List.getElem?_eq_some_iff.mp hw).1
                rw [k' i (hio i rfl), st, if_pos (by omega), hw] at hu
                cases hu
                rw [if_pos rfl]
                exact ⟨hf, ou.flatTo hf fun a m => (ou.mut a m).2⟩
              · cases g
        · split
          · exact s'.nd i
          · exact List.nodup_nil
        · simp only at h
          split at h
          · exact fr.no a m ⟨i, h⟩
          · simp at h
    cases fl with
    | nx => exact fin _ _ e .non [] (Own.ofImm .non (by simp)) .nil
    | rt d0 n0 => exact fin _ _ e
    | bk => cases e
    | ct => cases e
end
end Zk
namespace Zk
open PySem PySem.Spec PyProof.Rows L2

def isSlot (j : Nat) : Op → Bool
  | .slot i => i == j
  | _ => false
def dem1 (E : Ev) : Op → Ev
  | .slot j => match eg E j with
    | some (d, _) => if imm d = true then E else E.set j (some (d, 0))
    | none => E
  | _ => E
def dem (E : Ev) (os : List Op) : Ev := os.foldl dem1 E
def flAt (E : Ev) (j : Nat) : Option Nat := match eg E j with
  | some (d, n + 1) => if flat d = true then some (n + 1) else none
  | _ => none
def mCall (io : Option Nat) (M : Mir) (fa : Fa) : Fe := fun E => (fa E).bind fun p => (rdL p.2 p.1).bind fun ds => (M ds).bind fun r => match io with
  | none => if imm r.1 = true then some (.val r.1 9, p.2) else some (.val r.1 r.2.1, dem p.2 p.1)
  | some i => match p.1[i]? with
    | some (.slot j) => (flAt p.2 j).bind fun n => if (p.1.eraseIdx i).all (fun o => !isSlot j o) = true then
        (if imm r.1 = true then some (.val r.1 9, p.2.set j (some (r.2.2, n))) else some (.val r.1 r.2.1, (dem p.2 (p.1.eraseIdx i)).set j (some (r.2.2, n)))) else none
    | _ => none
section
variable {K : PySem.W.Frag} {Z Z' Zf Z0 Z1 : Addr → Prop} {H H' H0 H1 : Hp} {σ : L2.St} {E E' E1 : Ev} {R R' R0 R1 : Rs}
theorem rdL_get : ∀ {os : List Op} {ds : List D}, rdL E os = some ds → ds.length = os.length ∧ ∀ {i : Nat} {o : Op}, os[i]? = some o → ∃ d, ds[i]? = some d ∧ rd E o = some d
  | [], ds, h => by
    cases h
    exact ⟨rfl, fun h => by simp at h⟩
  | o :: os, ds, h => by
    simp only [rdL] at h
    cases q : rd E o with
    | none => rw [q] at h; cases h
    | some d =>
      rw [q] at h
      cases q2 : rdL E os with
      | none => rw [q2] at h; cases h
      | some es =>
        rw [q2] at h
        cases h
        obtain ⟨l, g⟩ := rdL_get q2
        refine ⟨by simp [l], fun {i o'} h => ?_⟩
        cases i with
        | zero => simp at h; subst h; exact ⟨d, rfl, q⟩
        | succ i => obtain ⟨d', h1, h2⟩ := g (i := i) (o := o') (by simpa using h); exact ⟨d', by simpa using h1, h2⟩
/-- the call, where the end is unchangeable or no slot that is given owns anything -/
theorem S.call (s : S K Z1 H1 σ E1 R1) (t1 : Step Z H (ow R) Z1 H1 (ow R1)) {vs : List V} {os : List Op} {rss : List (List Addr)} {ds : List D} (args : All3 (OV K Z1 H1 σ) vs os rss) (fr : Fr R H R1 rss.flatten) (hd : rdL E1 os = some ds)
    {io : Option Nat} {j n0 : Nat} (hio : ∀ i, io = some i → os[i]? = some (.slot j) ∧ flAt E1 j = some n0 ∧ ∀ p o, p ≠ i → os[p]? = some o → o ≠ .slot j) {M : Mir} {d : D} {n : Nat} {out : D} (hM : M ds = some (d, n, out))
    (hc : imm d = true ∨ ∀ p k, io ≠ some p → os[p]? = some (.slot k) → R1 k = []) {Q : VK} {X : XK}
    (q : ∀ v Z' H' R' rs, S K Z' H' σ (if io = none then E1 else E1.set j (some (out, n0))) R' → Step Z H (ow R) Z' H' (ow R') → Own K Z' H' n v d rs → Fr R H R' rs → Q v H') : spM K io os.length M vs H1 Q X := by
  have lens := args.len
  obtain ⟨ld, gd⟩ := rdL_get hd
  -- what is lent
  let bo : Addr → Prop := fun a => ∃ p k, io ≠ some p ∧ os[p]? = some (.slot k) ∧ a ∈ R1 k
  have boow : ∀ a, bo a → ow R1 a := fun a ⟨p, k, _, _, m⟩ => ⟨k, m⟩
  let Zp : Addr → Prop := fun a => Z1 a ∨ bo a ∨ a ∈ rss.flatten
  have pp : Pers Z1 H1 Zp H1 := ⟨fun _ h => .inl h, fun _ _ _ h => h, fun _ _ h _ => h⟩
  have rth : ∀ a ∈ rss.flatten, H1 a ≠ none := by
    clear hd gd ld hio hc lens fr
    revert bo Zp
    intro bo boow Zp pp
    clear boow pp
    induction args with
    | nil => intro a m; simp at m
    | cons h t ih =>
      intro a m
      rw [List.flatten_cons, List.mem_append] at m
      rcases m with m | m
      · exact OV.there h a m
      · exact ih a m
  let rs0 : Rs := fun k => if io = some k ∧ k < os.length then R1 j else []
  have rs0ow : ∀ a, ow rs0 a → io ≠ none ∧ a ∈ R1 j := fun a ⟨k, m⟩ => by
    simp only [rs0] at m
    split at m
    · rename_i h
      exact ⟨by rw [h.1]; simp, m⟩
    · simp at m
  refine ⟨Zp, ds, rs0, by rw [lens.1], ld, fun a z => ?_, fun i v dd hv hdd => ?_, fun i hi => ?_, fun i => ?_, d, n, out, hM, fun v Z' H' rs' rr t2 zd' hout rs'n rs'nd o f2 => ?_⟩
  · rcases z with z | z | z
    · exact s.zd a z
    · exact s.there (boow a z)
    · exact rth a z
  · have hio' : i < os.length := by rw [← ld]; exact (List.getElem?_eq_some_iff.mp hdd).1
    obtain ⟨v', rsi, h1, h2, ovi⟩ := args.get (List.getElem?_eq_getElem hio')
    rw [hv] at h1
    cases h1
    obtain ⟨d', h3, h4⟩ := gd (List.getElem?_eq_getElem hio')
    rw [hdd] at h3
    cases h3
    by_cases c : io = some i
    · rw [if_pos c]
      obtain ⟨g1, g2, g3⟩ := hio i c
      rw [List.getElem?_eq_getElem hio'] at g1
      have eo := Option.some.inj g1
      rw [eo] at ovi h4
      unfold flAt at g2
      cases g : eg E1 j with
      | none => rw [g] at g2; cases g2
      | some dn =>
        obtain ⟨d1, n1⟩ := dn
        cases n1 with
        | zero => rw [g] at g2; cases g2
        | succ n1 =>
          rw [g] at g2
          simp only at g2
          split at g2
          · rename_i hf
            simp only [Zk.rd, g, Option.map_some, Option.some.injEq] at h4
            subst h4
            obtain ⟨u, hu, ou⟩ := s.slot j _ _ g
            rw [ovi.1] at hu
            cases hu
            refine ⟨hf, ?_⟩
            have e0 : rs0 i = R1 j := if_pos ⟨c, hio'⟩
            rw [e0]
            refine ou.flatTo hf fun a m z => ?_
            rcases z with z | ⟨p, k, hp, hk, mk⟩ | z
            · exact (ou.mut a m).2 z
            · have ek := s.dj j k a m mk
              subst ek
              exact g3 p _ (fun e => hp (by rw [c, e])) hk rfl
            · exact fr.no a z ⟨j, m⟩
          · cases g2
    · rw [if_neg c]
      cases ho : os[i] with
      | slot k =>
        rw [ho] at ovi h4
        simp only [Zk.rd] at h4
        cases g : eg E1 k with
        | none => rw [g] at h4; cases h4
        | some dn =>
          rw [g] at h4
          cases h4
          obtain ⟨u, hu, ou⟩ := s.slot k _ _ g
          rw [ovi.1] at hu
          cases hu
          exact ou.freeze pp fun a m => ⟨rfl, .inr (.inl ⟨i, k, c, by rw [List.getElem?_eq_getElem hio', ho], m⟩)⟩
      | val d2 n2 =>
        rw [ho] at ovi h4
        cases h4
        exact Own.freeze pp (fun a m => ⟨rfl, .inr (.inr (mem_flatten_of (List.mem_of_getElem? h2) m))⟩) ovi
  · exact if_neg fun h => by
      have := hi h.1
      omega
  · simp only [rs0]
    split
    · exact s.nd j
    · exact List.nodup_nil
  -- behind the call
  have bo0 : (imm d = true) ∨ ∀ a, ¬ bo a := hc.imp id fun h a ⟨p, k, h1, h2, m⟩ => by
    rw [h p k h1 h2] at m; simp at m
  let Z2 : Addr → Prop := fun a => Z' a ∧ ¬ bo a
  have rs0R : ∀ a, ow rs0 a → ow R1 a := fun a h => ⟨j, (rs0ow a h).2⟩
  have same : ∀ a, (∃ o, H1 a = some o) → ¬ ow rs0 a → H' a = H1 a := fun a ⟨o, ho⟩ h => by rw [ho]; exact t2.hh a o ho h
  have tp : ∀ a o, H1 a = some o → ¬ Mut (some o) → H' a = some o := fun a o ho hm => t2.hh a o ho fun h => hm (by have := (s.owns (rs0R a h)).1; rw [ho] at this; exact this)
  have p2 : Pers Z1 H1 Z2 H' := ⟨fun a z => ⟨t2.zz a (.inl z), fun b => (s.owns (boow a b)).2 z⟩, fun a o z ho => t2.hh a o ho fun h => (s.owns (rs0R a h)).2 z, tp⟩
  have z2no : ∀ a, ow R1 a → ¬ ow rs0 a → ¬ Z2 a := fun a h h0 z => by
    rcases t2.zn a z.1 with (y | y | y) | y | y
    · exact (s.owns h).2 y
    · exact z.2 y
    · exact fr.no a y h
    · exact s.there h y
    · exact h0 y
  let R2 : Rs := fun k => if io ≠ none ∧ k = j then rs' (io.getD 0) else R1 k
  have ow2 : ∀ a, ow R2 a → ow R1 a ∨ ow rs' a := fun a ⟨k, m⟩ => by
    simp only [R2] at m
    split at m
    · exact .inr ⟨_, m⟩
    · exact .inl ⟨k, m⟩
  have rs'on : ∀ a, ow rs' a → ow rs0 a ∨ H1 a = none := t2.on
  have j0 : ∀ i, io = some i → j < E1.length ∧ ∃ w, σ[j]? = some (some w) ∧ vs[i]? = some w := fun i c => by
    obtain ⟨g1, g2, g3⟩ := hio i c
    unfold flAt at g2
    cases g : eg E1 j with
    | none => rw [g] at g2; cases g2
    | some dn =>
      refine ⟨eg_lt g, ?_⟩
      have hi := (List.getElem?_eq_some_iff.mp g1).1
      obtain ⟨v', rsi, h1, h2, ovi⟩ := args.get g1
      exact ⟨v', ovi.1, h1⟩
  have s2 : S K Z2 H' σ (if io = none then E1 else E1.set j (some (out, n0))) R2 := by
    have old : ∀ k d n, eg E1 k = some (d, n) → (∀ i, io = some i → k ≠ j) → ∃ v, σ[k]? = some (some v) ∧ Own K Z2 H' n v d (R1 k) := fun k d n g hk => by
      obtain ⟨u, hu, ou⟩ := s.slot k d n g
      have nrs : ∀ a ∈ R1 k, ¬ ow rs0 a := fun a m h => by
        obtain ⟨h1, h2⟩ := rs0ow a h
        cases hio2 : io with
        | none => exact h1 hio2
        | some i => exact hk i hio2 (s.dj k j a m h2)
      refine ⟨u, hu, ou.keep p2 fun a m => ⟨same a ?_ (nrs a m), z2no a ⟨k, m⟩ (nrs a m)⟩⟩
      cases hh : H1 a with
      | none => exact absurd hh (s.there ⟨k, m⟩)
      | some o => exact ⟨o, rfl⟩
    cases hio2 : io with
    | none =>
      rw [if_pos rfl]
      have eR : R2 = R1 := by funext k; exact if_neg fun h => h.1 hio2
      rw [eR]
      exact ⟨s.len, fun k d n g => old k d n g (fun i e => by rw [hio2] at e; cases e), s.emp, s.nd, s.dj, fun a z => zd' a z.1⟩
    | some i =>
      rw [if_neg (by simp)]
      obtain ⟨hj, w, hw, hvw⟩ := j0 i hio2
      obtain ⟨fo, oo⟩ := hout i w hio2 hvw
      have eR : R2 = put R1 j (rs' i) := by
        funext k
        simp only [R2, hio2, put, Option.getD_some]
        by_cases c : k = j <;> simp [c]
      have nR : ∀ a ∈ rs' i, ∀ k, k ≠ j → a ∉ R1 k := fun a m k hk mk => by
        rcases rs'on a ⟨i, m⟩ with h | h
        · exact hk (s.dj k j a mk (rs0ow a h).2)
        · exact s.there ⟨k, mk⟩ h
      rw [eR]
      refine ⟨by simp [s.len], fun k d n g => ?_, fun k g => ?_, fun k => ?_, fun k l a h1 h2 => ?_, fun a z => zd' a z.1⟩
      · by_cases c : k = j
        · subst c
          rw [eg_set_same hj] at g
          cases g
          refine ⟨w, hw, ?_⟩
          rw [put_same]
          obtain ⟨_, g2, _⟩ := hio i hio2
          have e0 : ∃ n1, n0 = n1 + 1 := by
            unfold flAt at g2
            split at g2
            · split at g2
              · cases g2; exact ⟨_, rfl⟩
              · cases g2
            · cases g2
          obtain ⟨n1, e0⟩ := e0
          rw [e0]
          exact oo.flatTo fo fun a m z => (oo.mut a m).2 z.1
        · rw [eg_set_ne c] at g
          rw [put_ne c]
          exact old k d n g fun _ _ => c
      · by_cases c : k = j
        · subst c; rw [eg_set_same hj] at g; cases g
        · rw [eg_set_ne c] at g; rw [put_ne c]; exact s.emp k g
      · by_cases c : k = j
        · subst c; rw [put_same]; exact rs'nd i
        · rw [put_ne c]; exact s.nd k
      · by_cases c : k = j
        · subst c
          rw [put_same] at h1
          by_cases c2 : l = k
          · exact c2.symm
          · rw [put_ne c2] at h2; exact absurd h2 (nR a h1 l c2)
        · rw [put_ne c] at h1
          by_cases c2 : l = j
          · subst c2; rw [put_same] at h2; exact absurd h1 (nR a h2 k c)
          · rw [put_ne c2] at h2; exact s.dj k l a h1 h2
  have back : ∀ a, H1 a = none → H a = none := fun a h => by
    cases c : H a with
    | none => rfl
    | some o => exact absurd h (t1.dm a (by rw [c]; simp))
  have t3 : Step Z H (ow R) Z2 H' (ow R2) := by
    refine ⟨fun a z => p2.zz a (t1.zz a z), fun a z => ?_, fun a o ho h => ?_, fun a h => ?_, fun a h => t2.dm a (t1.dm a h)⟩
    · rcases t2.zn a z.1 with (y | y | y) | y | y
      · exact t1.zn a y
      · exact absurd y z.2
      · rcases fr.of a y with y | y
        · exact .inr (.inr y)
        · exact .inr (.inl y)
      · exact .inr (.inl (back a y))
      · rcases t1.on a (rs0R a y) with y | y
        · exact .inr (.inr y)
        · exact .inr (.inl y)
    · refine t2.hh a o (t1.hh a o ho h) fun h0 => ?_
      rcases t1.on a (rs0R a h0) with y | y
      · exact h y
      · rw [ho] at y; cases y
    · rcases ow2 a h with y | y
      · exact t1.on a y
      · rcases rs'on a y with y | y
        · exact t1.on a (rs0R a y)
        · exact .inr (back a y)
  have fro : ∀ a ∈ rr, ¬ ow R2 a := fun a m h => by
    rcases ow2 a h with y | y
    · rcases f2.of a m with z | z
      · -- the slot j alone
        obtain ⟨k, mk⟩ := h
        obtain ⟨h1, h2⟩ := rs0ow a z
        simp only [R2] at mk
        split at mk
        · exact f2.no a m ⟨_, mk⟩
        · rename_i hk
          exact hk ⟨h1, s.dj k j a mk h2⟩
      · exact s.there y z
    · exact f2.no a m y
  have frf : ∀ a ∈ rr, ow R a ∨ H a = none := fun a m => by
    rcases f2.of a m with z | z
    · exact t1.on a (rs0R a z)
    · exact .inr (back a z)
  rcases bo0 with hi | hb
  · obtain ⟨rfl, rp⟩ := o.imm hi
    exact q v Z2 H' R2 [] s2 t3 (Own.ofImm (rp.immz (fun _ _ h _ => h) hi) hi) ⟨List.nodup_nil, fun a m => by simp at m, fun a m => by simp at m⟩
  · have eZ : Z2 = Z' := by
      funext a
      simp only [Z2, eq_iff_iff]
      exact ⟨fun h => h.1, fun h => ⟨h, hb a⟩⟩
    rw [eZ] at s2 t3
    exact q v Z' H' R2 rr s2 t3 o ⟨f2.nd, fro, frf⟩

/-- slots that are given are frozen -/
theorem S.demL : ∀ (os : List Op) {Z1 : Addr → Prop} {E1 : Ev} {R1 : Rs}, S K Z1 H1 σ E1 R1 → ∃ Z2 R2, S K Z2 H1 σ (dem E1 os) R2 ∧ Step Z1 H1 (ow R1) Z2 H1 (ow R2) ∧ (∀ k, Op.slot k ∈ os → R2 k = []) ∧ (∀ k, R1 k = [] → R2 k = []) ∧
    (∀ j, Op.slot j ∉ os → eg (dem E1 os) j = eg E1 j) ∧ (∀ o d, rd E1 o = some d → rd (dem E1 os) o = some d)
  | [], Z1, E1, R1, s => ⟨Z1, R1, s, .refl, fun k h => by simp at h, fun _ h => h, fun _ _ => rfl, fun _ _ h => h⟩
  | o :: os, Z1, E1, R1, s => by
    have one : ∃ Z2 R2, S K Z2 H1 σ (dem1 E1 o) R2 ∧ Step Z1 H1 (ow R1) Z2 H1 (ow R2) ∧ (∀ k, o = .slot k → R2 k = []) ∧ (∀ k, R1 k = [] → R2 k = []) ∧ (∀ j, o ≠ .slot j → eg (dem1 E1 o) j = eg E1 j) ∧ (∀ o' d, rd E1 o' = some d → rd (dem1 E1 o) o' = some d) := by
      cases o with
      | val d n => exact ⟨Z1, R1, s, .refl, (fun k h => nomatch h), (fun _ h => h), (fun _ _ => rfl), fun _ _ h => h⟩
      | slot k =>
        cases g : eg E1 k with
        | none =>
          have ed : dem1 E1 (.slot k) = E1 := by simp [dem1, g]
          rw [ed]
          exact ⟨Z1, R1, s, .refl, (fun k' h => by cases h; exact s.emp k g), (fun _ h => h), (fun _ _ => rfl), fun _ _ h => h⟩
        | some dn =>
          obtain ⟨d, n⟩ := dn
          by_cases i : imm d = true
          · have ed : dem1 E1 (.slot k) = E1 := by simp [dem1, g, i]
            rw [ed]
            refine ⟨Z1, R1, s, .refl, (fun k' h => ?_), (fun _ h => h), (fun _ _ => rfl), fun _ _ h => h⟩
            cases h
            obtain ⟨u, _, ou⟩ := s.slot k d n g
            exact (ou.imm i).1
          · have ed : dem1 E1 (.slot k) = E1.set k (some (d, 0)) := by simp [dem1, g, i]
            rw [ed]
            obtain ⟨s1, t1, f1⟩ := s.freeze g
            refine ⟨_, _, s1, t1, (fun k' h => by cases h; exact put_same), (fun k' h => ?_), (fun j hj => eg_set_ne fun e => hj (by rw [e])), fun o' d' h => ?_⟩
            · by_cases c : k' = k
              · subst c; exact put_same
              · rw [put_ne c]; exact h
            · cases o' with
              | val _ _ => exact h
              | slot j =>
                simp only [Zk.rd] at h ⊢
                by_cases c : j = k
                · subst c
                  rw [g] at h
                  rw [eg_set_same (eg_lt g)]
                  exact h
                · rw [eg_set_ne c]; exact h
    obtain ⟨Z2, R2, s2, t2, a2, b2, c2, d2⟩ := one
    obtain ⟨Z3, R3, s3, t3, a3, b3, c3, d3⟩ := S.demL os s2
    refine ⟨Z3, R3, s3, t2.trans t3, fun k h => ?_, fun k h => b3 k (b2 k h), fun j h => ?_, fun o' d h => d3 o' d (d2 o' d h)⟩
    · rcases List.mem_cons.mp h with h | h
      · exact b3 k (a2 k h.symm)
      · exact a3 k h
    · rw [List.mem_cons, not_or] at h
      exact (c3 j h.2).trans (c2 j fun e => h.1 e.symm)
theorem rdL_mono {E E' : Ev} (h : ∀ o d, rd E o = some d → rd E' o = some d) : ∀ {os : List Op} {ds : List D}, rdL E os = some ds → rdL E' os = some ds
  | [], _, e => e
  | o :: os, ds, e => by
    simp only [rdL] at e ⊢
    cases q : rd E o with
    | none => rw [q] at e; cases e
    | some d =>
      rw [q] at e
      cases q2 : rdL E os with
      | none => rw [q2] at e; cases e
      | some es =>
        rw [q2] at e
        rw [h o d q, rdL_mono h q2]
        exact e
theorem call_of {io : Option Nat} {M : Mir} {fa : Fa} {Q : VK} {X : XK} {H : Hp} (q : eOf K (mCall io M fa) σ H Q) : aOf K fa σ H fun vs H1 => spM K io vs.length M vs H1 Q X := by
  obtain ⟨Z, E, R, s, o, E', e, q⟩ := q
  unfold mCall at e
  cases e1 : fa E with
  | none => rw [e1] at e; cases e
  | some p =>
    obtain ⟨os, E1⟩ := p
    rw [e1] at e
    simp only [Option.bind_some] at e
    cases e2 : rdL E1 os with
    | none => rw [e2] at e; cases e
    | some ds =>
      rw [e2] at e
      simp only [Option.bind_some] at e
      cases e3 : M ds with
      | none => rw [e3] at e; cases e
      | some r =>
        obtain ⟨d, n, out⟩ := r
        rw [e3] at e
        simp only [Option.bind_some] at e
        refine ⟨Z, E, R, s, os, E1, e1, fun vs Z1 H1 R1 rss s1 t1 a1 f1 => ?_⟩
        show spM K io vs.length M vs H1 Q X
        rw [a1.len.1]
        -- the arguments behind some are frozen
        have args' : ∀ {Z2 : Addr → Prop} {E2 : Ev} {R2 : Rs}, S K Z2 H1 σ E2 R2 → Step Z1 H1 (ow R1) Z2 H1 (ow R2) → All3 (OV K Z2 H1 σ) vs os rss ∧ Fr R H R2 rss.flatten := fun {Z2 E2 R2} s2 t2 => by
          refine ⟨a1.imp fun v' o' rs' m hh => ?_, ⟨f1.nd, fun a m h => ?_, f1.of⟩⟩
          · cases o' with
            | slot k => exact hh
            | val d' n' => exact (s1.pend t2 hh fun a ma => f1.no a (mem_flatten_of m ma)).1
          · rcases t2.on a h with z | z
            · exact f1.no a m z
            · have : ∀ {vs : List V} {os : List Op} {rss : List (List Addr)}, All3 (OV K Z1 H1 σ) vs os rss → ∀ a ∈ rss.flatten, H1 a ≠ none := by
                intro vs os rss h
                induction h with
                | nil => intro a m; simp at m
                | cons h t ih =>
                  intro a m
                  rw [List.flatten_cons, List.mem_append] at m
                  rcases m with m | m
                  · exact OV.there h a m
                  · exact ih a m
              exact this a1 a m z
        cases io with
        | none =>
          simp only at e
          split at e
          · rename_i hi
            cases e
            refine s1.call (j := 0) (n0 := 0) t1 a1 f1 e2 (fun i h => by cases h) e3 (.inl hi) fun v Z' H' R' rs s' t' o' f' => ?_
            obtain ⟨rfl, rp⟩ := o'.imm hi
            exact q v Z' H' R' [] s' t' (Own.ofImm rp hi) .nil
          · cases e
            obtain ⟨Z2, R2, s2, t2, g2, b2, c2, d2⟩ := s1.demL os
            obtain ⟨a3, f3⟩ := args' s2 t2
            exact s2.call (j := 0) (n0 := 0) (t1.trans t2) a3 f3 (rdL_mono d2 e2) (fun i h => by cases h) e3 (.inr fun p k _ h => g2 k (List.mem_of_getElem? h)) fun v Z' H' R' rs s' t' o' f' => q v Z' H' R' rs s' t' o' f'
        | some i =>
          simp only at e
          split at e
          · rename_i j hj
            cases e4 : flAt E1 j with
            | none => rw [e4] at e; cases e
            | some n0 =>
              rw [e4] at e
              simp only [Option.bind_some] at e
              split at e
              · rename_i hall
                have alone : ∀ p o, p ≠ i → os[p]? = some o → o ≠ .slot j := fun p o hp ho ee => by
                  have m : o ∈ os.eraseIdx i := by
                    rw [List.mem_eraseIdx_iff_getElem?]
                    exact ⟨p, hp, ho⟩
                  have := List.all_eq_true.mp hall o m
                  rw [ee] at this
                  simp [isSlot] at this
                split at e
                · rename_i hi
                  cases e
                  refine s1.call (j := j) (n0 := n0) t1 a1 f1 e2 (fun i' h => by cases h; exact ⟨hj, e4, alone⟩) e3 (.inl hi) fun v Z' H' R' rs s' t' o' f' => ?_
                  obtain ⟨rfl, rp⟩ := o'.imm hi
                  exact q v Z' H' R' [] (by simpa using s') t' (Own.ofImm rp hi) .nil
                · cases e
                  obtain ⟨Z2, R2, s2, t2, g2, b2, c2, d2⟩ := s1.demL (os.eraseIdx i)
                  obtain ⟨a3, f3⟩ := args' s2 t2
                  have nj : Op.slot j ∉ os.eraseIdx i := fun m => by
                    have := List.all_eq_true.mp hall _ m
                    simp [isSlot] at this
                  refine s2.call (j := j) (n0 := n0) (t1.trans t2) a3 f3 (rdL_mono d2 e2) (fun i' h => by
                    cases h
                    refine ⟨hj, ?_, alone⟩
                    unfold flAt at e4 ⊢
                    rw [c2 j nj]; exact e4) e3 (.inr fun p k hp h => g2 k ?_) fun v Z' H' R' rs s' t' o' f' => q v Z' H' R' rs (by simpa using s') t' o' f'
                  rw [List.mem_eraseIdx_iff_getElem?]
                  exact ⟨p, fun e => hp (by rw [e]), h⟩
              · cases e
          · cases e
end
section
variable {P : Program} {w : World} {K : PySem.W.Frag} {mg : Str → Option Value} {base : Heap}
theorem spM_len {io : Option Nat} {np : Nat} {M : Mir} {vs : List V} {H : Hp} {Q : VK} {X : XK} (h : spM K io np M vs H Q X) : vs.length = np := by
  obtain ⟨_, _, _, h, _⟩ := h
  exact h
/-- a def of the text keeps the promise of its mirror -/
theorem _root_.L2.Fun.zk {x qual : Str} {st : Stmt} {f : Addr} {fd : FuncData} {N ps : List Str} {k : Nat} {wr : List Nat} {fs : Fs} (F : Fun K x qual st f fd) (Sc : FnScope N ps (defScope st)) (io : Option Nat) (hN : ps.length ≤ N.length) (hio : ∀ i, io = some i → i ∉ wr)
    (hb : ∀ (cdv : Value) (A : Around) (outer : List Env) (s : Shared) (H : Hp) (E : XK), Room k (A.deeper (envOfC qual (defScope st) s.heap.objs.size f cdv)) →
      ASs (cxOf CX0 P w K mg base N qual (defScope st) f cdv A outer s H E).nox (defBody st) wr fs) : FnOk P w K mg base CX0 (k + 1) f fd ps (spM K io ps.length (mDef io N.length fs)) :=
  F.ok Sc (fun vs H Q E h => spM_len h) fun cdv A outer s H vs Q E hr h => ⟨_, hb cdv A outer s H E hr, body_of hN hio h⟩
theorem Room.u65 {k : Nat} {A : Around} (hr : Room k A) : A.units + 65 < cLine := by have := hr.un; omega
variable {X : Cx} {k : Nat} {f : Addr} {fd : FuncData} {ps : List Str} {x : Str} {p pos : PySem.Pos} {e : Expr} {es : List Expr} {fa : Fa} {M : Mir} {io : Option Nat}
theorem PA.len {t : TA} (h : PA X es t) : True := trivial
/-- f(e, ..) -/
theorem ae_call {np : Nat} (F : FnOk X.prog X.w X.K X.mg X.base CX0 k f fd ps (spM X.K io np M)) (hr : Room k X.A) (hg : Gl X x) (hm : X.mg x = some (.ref f)) (hk : PySem.W.keepIn X.K (.ref f) = true) (hb : Binds X.K fd ps []) (ha : AA X (e :: es) fa)
    (hnp : ∀ E os E', fa E = some (os, E') → os.length = np) (hdb : (x == ("__debug__" : Str)) = false := by decide) (he : starEach (e :: es) X.env = (false, eval e X.env) :: starEach es X.env := by rfl) (hpl : (backTo pos (starEach es X.env)).any (·.1) = false := by rfl) :
    AE X (.Call (.Name x p) (e :: es) [] pos) (mCall io M fa) := PE.mono (pe_call F hr hg hm hk hb .nil pass0 ha hdb he hpl) fun σ H Q q => by
  obtain ⟨Z, E, R, s, os, E', e1, q⟩ := call_of (X := E0) q
  refine ⟨Z, E, R, s, os, E', e1, fun vs Z' H' R' rss s' t' a' f' => ?_⟩
  have h : spM X.K io vs.length M vs H' Q E0 := q vs Z' H' R' rss s' t' a' f'
  show spM X.K io np M (vs ++ []) H' Q E0
  rw [List.append_nil]
  rw [a'.len.1, hnp E os E' e1] at h
  exact h
theorem np0 : ∀ E os E', mA0 E = some (os, E') → os.length = 0 := fun E os E' h => by cases h; rfl
theorem npc {a : Fe} {b : Fa} {n : Nat} (h : ∀ E os E', b E = some (os, E') → os.length = n) : ∀ E os E', mAc a b E = some (os, E') → os.length = n + 1 := fun E os E' e => by
  unfold mAc at e
  cases e1 : a E with
  | none => rw [e1] at e; cases e
  | some p =>
    rw [e1] at e
    simp only [Option.bind_some] at e
    cases e2 : b p.2 with
    | none => rw [e2] at e; cases e
    | some q =>
      rw [e2] at e
      cases e
      simp [h p.2 q.1 q.2 e2]
end
end Zk
namespace Zk
open PySem PySem.Spec PyProof.Rows L2

section
variable {K : PySem.W.Frag} {Z Z' Zf Z0 Z1 : Addr → Prop} {H H' H0 H1 : Hp} {σ σ' : L2.St} {E E' E1 : Ev} {R R' R0 R1 : Rs}
def wipeE (E : Ev) : List Nat → Ev
  | [] => E
  | i :: is => wipeE (E.set i none) is
/-- the slots is of E' as they were in E -/
def backE (E : Ev) (E' : Ev) : List Nat → Ev
  | [] => E'
  | i :: is => backE E (E'.set i (eg E i)) is
def lcM (g : Fg) (c : Ft) (f : Fe) (is : List Nat) : List D → Ev → List (D × Nat) → Option (List (D × Nat) × Ev)
  | [], E, acc => some (acc, E)
  | d :: ds, E, acc => (g d E).bind fun E1 => (c E1).bind fun q => if q.1 = true then
      (f q.2).bind fun r => (tk r.2 r.1).bind fun t => if acc.length < sizeLine then lcM g c f is ds (wipeE t.2.2 is) (acc ++ [(t.1, t.2.1)]) else none
    else lcM g c f is ds (wipeE q.2 is) acc
def mLc (it : Fi) (is : List Nat) (g : Fg) (c : Ft) (f : Fe) : Fe := fun E => (it E).bind fun p => (lcM g c f is p.1 (wipeE p.2 is) []).map fun q => (.val (.lst (q.1.map (·.1))) (uni q.1), backE p.2 q.2 is)
def mYes : Ft := fun E => some (true, E)

theorem S.sigma (s : S K Z H σ E R) (hl : σ'.length = σ.length) (h : ∀ i, eg E i ≠ none → σ'[i]? = σ[i]?) : S K Z H σ' E R :=
  ⟨by rw [hl]; exact s.len, fun i d n e => by
    obtain ⟨v, h1, h2⟩ := s.slot i d n e
    exact ⟨v, by rw [h i (by rw [e]; simp)]; exact h1, h2⟩, s.emp, s.nd, s.dj, s.zd⟩
/-- the slots is are forgotten -/
theorem S.wipe : ∀ (is : List Nat) {E : Ev} {R : Rs}, S K Z H σ E R → ∃ R', S K Z H σ (wipeE E is) R' ∧ (∀ k, k ∉ is → R' k = R k) ∧ (∀ k ∈ is, R' k = []) ∧ (∀ k, k ∉ is → eg (wipeE E is) k = eg E k) ∧ (∀ k ∈ is, eg (wipeE E is) k = none)
  | [], E, R, s => ⟨R, s, fun _ _ => rfl, fun _ h => by simp at h, fun _ _ => rfl, fun _ h => by simp at h⟩
  | i :: is, E, R, s => by
    have non : eg (E.set i none) i = none := by
      by_cases hi : i < E.length
      · exact eg_set_same hi
      · unfold eg; rw [List.getElem?_eq_none (by simp; omega)]; rfl
    obtain ⟨R', s', h1, h2, h3, h4⟩ := S.wipe is (s.dropSlot (i := i))
    refine ⟨R', s', fun k hk => ?_, fun k hk => ?_, fun k hk => ?_, fun k hk => ?_⟩
    · rw [List.mem_cons, not_or] at hk
      rw [h1 k hk.2, put_ne hk.1]
    · by_cases c : k ∈ is
      · exact h2 k c
      · have e : k = i := (List.mem_cons.mp hk).resolve_right c
        subst e
        rw [h1 k c, put_same]
    · rw [List.mem_cons, not_or] at hk
      simp only [wipeE]
      rw [h3 k hk.2, eg_set_ne hk.1]
    · by_cases c : k ∈ is
      · exact h4 k c
      · have e : k = i := (List.mem_cons.mp hk).resolve_right c
        subst e
        simp only [wipeE]
        rw [h3 k c, non]
theorem wipeE_len : ∀ (is : List Nat) (E : Ev), (wipeE E is).length = E.length
  | [], _ => rfl
  | i :: is, E => by simp only [wipeE]; rw [wipeE_len is]; simp
theorem backE_get : ∀ (is : List Nat) (E E' : Ev), (backE E E' is).length = E'.length ∧ ∀ k, eg (backE E E' is) k = if k ∈ is ∧ k < E'.length then eg E k else eg E' k
  | [], E, E' => ⟨rfl, fun k => by simp [backE]⟩
  | i :: is, E, E' => by
    obtain ⟨h1, h2⟩ := backE_get is E (E'.set i (eg E i))
    refine ⟨by simp only [backE]; rw [h1]; simp, fun k => ?_⟩
    simp only [backE]
    rw [h2 k]
    simp only [List.length_set, List.mem_cons]
    by_cases c : k ∈ is ∧ k < E'.length
    · rw [if_pos c, if_pos ⟨.inr c.1, c.2⟩]
    · rw [if_neg c]
      by_cases c2 : k = i
      · subst c2
        by_cases c3 : k < E'.length
        · rw [eg_set_same c3, if_pos ⟨.inl rfl, c3⟩]
        · rw [if_neg (fun h => c3 h.2)]
          unfold eg
          rw [List.getElem?_eq_none (by simp; omega), List.getElem?_eq_none (by omega)]
      · rw [eg_set_ne c2, if_neg]
        rintro ⟨h | h, hl⟩
        · exact c2 h
        · exact c ⟨h, hl⟩
/-- a changeable thing that is no slot's is changed -/
theorem S.free (s : S K Z H σ E R) {p : Addr} {o o' : HO} (hp : H p = some o) (mu : Mut (some o)) (no : ¬ ow R p) (nz : ¬ Z p) : S K Z (upd H p o') σ E R ∧ Pers Z H Z (upd H p o') := by
  have pz : Pers Z H Z (upd H p o') := ⟨fun _ h => h, fun b u z e => by
    have ne : b ≠ p := fun e2 => nz (by rw [← e2]; exact z)
    rw [upd_ne ne]; exact e, fun b u e n => by
    have ne : b ≠ p := fun e2 => n (by rw [e2, hp] at e; cases e; exact mu)
    rw [upd_ne ne]; exact e⟩
  refine ⟨⟨s.len, fun i d n e => ?_, s.emp, s.nd, s.dj, fun a z => ?_⟩, pz⟩
  · obtain ⟨v, h1, h2⟩ := s.slot i d n e
    exact ⟨v, h1, h2.keep pz fun a m => ⟨upd_ne fun e => no ⟨i, by rw [← e]; exact m⟩, (h2.mut a m).2⟩⟩
  · by_cases c : a = p
    · rw [c, upd_same]; simp
    · rw [upd_ne c]; exact s.zd a z
/-- a list of taken items that is no slot's, told -/
theorem S.oldList (s : S K Z H σ E R) {vs : List V} {ds : List (D × Nat)} {rss : List (List Addr)} (h : TL K Z H vs ds rss) (nd : rss.flatten.Nodup) (no : ∀ a ∈ rss.flatten, ¬ ow R a) {p : Addr} (hp : H p = some (.lst vs)) (nz : ¬ Z p) (pne : ∀ a ∈ rss.flatten, a ≠ p) :
    ∃ Zf rs, S K Zf H σ E R ∧ Own K Zf H (uni ds) (.ref p) (.lst (ds.map (·.1))) rs ∧ rs.Nodup ∧ (∀ a ∈ rs, a = p ∨ a ∈ rss.flatten) ∧ (∀ a, Z a → Zf a) ∧ (∀ a, Zf a → Z a ∨ a ∈ rss.flatten) := by
  have th := TL.there h
  have froz : ∃ Zf rs, S K Zf H σ E R ∧ Own K Zf H 1 (.ref p) (.lst (ds.map (·.1))) rs ∧ rs.Nodup ∧ (∀ a ∈ rs, a = p ∨ a ∈ rss.flatten) ∧ (∀ a, Z a → Zf a) ∧ (∀ a, Zf a → Z a ∨ a ∈ rss.flatten) := by
    refine ⟨_, [p], s.chill no th, ⟨p, vs, _, rfl, hp, fun z => ?_, All3.ofRps0 (h.froz (Z' := fun a => Z a ∨ a ∈ rss.flatten) ⟨fun _ h => .inl h, fun _ _ _ h => h, fun _ _ h _ => h⟩ fun a ma => ⟨rfl, .inr ma⟩), by rw [flat_nils]⟩, by simp, fun a ma => .inl (by simpa using ma), fun _ h => .inl h, fun _ h => h⟩
    rcases z with z | z
    · exact nz z
    · exact pne p z rfl
  unfold uni
  split
  · rename_i i
    obtain ⟨r, e⟩ := h.immR i
    exact ⟨Z, [p], s, ⟨p, vs, _, rfl, hp, nz, All3.ofRpsI r i, by rw [flat_nils]⟩, by simp, fun a ma => .inl (by simpa using ma), fun _ h => h, fun _ h => .inl h⟩
  · split
    · rename_i d hd
      split
      · rename_i a
        exact ⟨Z, p :: rss.flatten, s, ⟨p, vs, rss, rfl, hp, nz, h.all a, rfl⟩, List.nodup_cons.mpr ⟨fun z => pne p z rfl, nd⟩, fun a ma => List.mem_cons.mp ma, fun _ h => h, fun _ h => .inl h⟩
      · exact froz
    · rename_i hn _ hi
      exact absurd (by
        rw [imms_all, List.all_map, List.all_eq_true]
        intro x hx
        have := List.find?_eq_none.mp hi x hx
        simpa using this) hn
theorem wipe_same {σ σ' : L2.St} : ∀ {is : List Nat}, σ'.length = σ.length → (∀ i, i ∉ is → σ'[i]? = σ[i]?) → L2.wipe σ' is = L2.wipe σ is := fun {is} hl h => by
  apply List.ext_getElem?
  intro i
  by_cases c : i ∈ is
  · have non : ∀ τ : L2.St, i < τ.length → (L2.wipe τ is)[i]? = some none := fun τ hi => by
      have hi2 : i < (L2.wipe τ is).length := by rw [wipe_length]; exact hi
      rw [List.getElem?_eq_getElem hi2]
      cases q : (L2.wipe τ is)[i] with
      | none => rfl
      | some x =>
        have := (wipe_some (σ := τ) (vs := is) (i := i) (x := x) (by rw [List.getElem?_eq_getElem hi2, q])).2
        exact absurd c this
    by_cases hi : i < σ.length
    · rw [non σ hi, non σ' (by omega)]
    · rw [List.getElem?_eq_none (by rw [wipe_length]; omega), List.getElem?_eq_none (by rw [wipe_length]; omega)]
  · rw [wipe_out c, wipe_out c]
    exact h i c
/-- a target leaves the number of slots -/
def GL (g : Fg) : Prop := ∀ d E E', g d E = some E' → E'.length = E.length
theorem lc_of {it : Fi} {is w : List Nat} {g : Fg} {c : Ft} {f : Fe} {Q : VK} (hgl : GL g) (hw : ∀ i ∈ w, i ∈ is) (q : eOf K (mLc it is g c f) σ H Q) : tLc (iOf K it) (gOf K w g) (cOf K c) (eOf K f) is σ H Q := by
  obtain ⟨Z, E, R, s, o, E', e, q⟩ := q
  unfold mLc at e
  cases e1 : it E with
  | none => rw [e1] at e; cases e
  | some p =>
    obtain ⟨its, E1⟩ := p
    rw [e1] at e
    simp only [Option.bind_some] at e
    cases e2 : lcM g c f is its (wipeE E1 is) [] with
    | none => rw [e2] at e; cases e
    | some p2 =>
      obtain ⟨accF, EF⟩ := p2
      rw [e2] at e
      cases e
      refine ⟨Z, E, R, s, its, E1, e1, fun J Z1 H1 R1 s1 t1 ok D hD => ?_⟩
      obtain ⟨Rw, sw, w1, w2, w3, w4⟩ := s1.wipe is
      have sw : S K Z1 H1 (L2.wipe σ is) (wipeE E1 is) Rw := sw.sigma (wipe_length σ is) fun i hi => wipe_out fun m => hi (w4 i m)
      have owR : ∀ a, ow Rw a → ow R1 a := fun a ⟨k, m⟩ => by
        by_cases ck : k ∈ is
        · rw [w2 k ck] at m; simp at m
        · exact ⟨k, by rw [← w1 k ck]; exact m⟩
      have nZ1D : ¬ Z1 D := fun z => s1.zd D z hD
      have mD : More H1 (upd H1 D (.lst [])) := .upd hD
      -- the invariant
      refine ⟨fun i m H2 => ∃ Z2 E2 R2 accV accD rss, S K Z2 H2 (L2.wipe σ is) E2 R2 ∧ Step Z1 H1 (ow Rw) Z2 H2 (ow R2) ∧ (∀ k ∈ is, R2 k = []) ∧ E2.length = E1.length ∧ H2 D = some (.lst accV) ∧ ¬ Z2 D ∧ ¬ ow R2 D ∧ TL K Z2 H2 accV accD rss ∧ rss.flatten.Nodup ∧
          (∀ a ∈ rss.flatten, ¬ ow R2 a ∧ a ≠ D ∧ (ow Rw a ∨ H1 a = none)) ∧ lcM g c f is (its.drop i) E2 accD = some (accF, EF) ∧ m = its.length - i ∧ i ≤ its.length,
        ⟨its.length, Z1, wipeE E1 is, Rw, [], [], [], sw.more mD, mD.step _, w2, wipeE_len is E1, upd_same, nZ1D, fun h => sw.there h hD, .nil, by simp, fun a m => by simp at m, e2, by simp, Nat.zero_le _⟩, ?_⟩
      rintro i m H2 ⟨Z2, E2, R2, accV, accD, rss, s2, t2, r2, l2, h2D, z2D, o2D, tl, tnd, tno, e3, rfl, hi⟩
      have p2 : Pers Z1 H1 Z2 H2 := sw.pers t2
      by_cases hlt : i < its.length
      · right
        refine ⟨ok.go Z2 H2 i p2 hlt, ?_⟩
        rw [List.drop_eq_getElem_cons hlt] at e3
        simp only [lcM] at e3
        cases e4 : g its[i] E2 with
        | none => rw [e4] at e3; cases e3
        | some E3 =>
          rw [e4] at e3
          simp only [Option.bind_some] at e3
          cases e5 : c E3 with
          | none => rw [e5] at e3; cases e3
          | some p5 =>
            obtain ⟨b, E5⟩ := p5
            rw [e5] at e3
            simp only [Option.bind_some] at e3
            -- what stands behind a turn
            refine ⟨fun H6 => ∃ m', m' < its.length - i ∧ ∃ Z2 E2 R2 accV accD rss, S K Z2 H6 (L2.wipe σ is) E2 R2 ∧ Step Z1 H1 (ow Rw) Z2 H6 (ow R2) ∧ (∀ k ∈ is, R2 k = []) ∧ E2.length = E1.length ∧ H6 D = some (.lst accV) ∧ ¬ Z2 D ∧ ¬ ow R2 D ∧ TL K Z2 H6 accV accD rss ∧ rss.flatten.Nodup ∧
                (∀ a ∈ rss.flatten, ¬ ow R2 a ∧ a ≠ D ∧ (ow Rw a ∨ H1 a = none)) ∧ lcM g c f is (its.drop (i + 1)) E2 accD = some (accF, EF) ∧ m' = its.length - (i + 1) ∧ i + 1 ≤ its.length, fun H6 h => h, fun x H3 y => ?_⟩
            obtain ⟨m3, d, hd, rx⟩ := ok.yld Z2 H2 i x H3 p2 hlt y
            have ed : its[i] = d := by rw [List.getElem?_eq_getElem hlt] at hd; exact Option.some.inj hd
            refine ⟨Z2, E2, R2, d, s2.more m3, rx, E3, by rw [← ed]; exact e4, fun σ4 R4 s4 t4 k4 => ⟨?_, ?_⟩⟩
            · have hl : σ4.length = (L2.wipe σ is).length := by rw [s4.len, (s2.more m3).len]; exact hgl _ _ _ e4
              have := wipe_same (σ := L2.wipe σ is) (σ' := σ4) (is := is) hl fun j hj => k4 j fun m => hj (hw j m)
              rw [this]
              exact wipe_same (by rw [wipe_length]) fun j hj => wipe_out hj
            refine ⟨Z2, E3, R4, s4, b, E5, e5, fun Z5 H5 R5 s5 t5 => ?_⟩
            have t35 := (m3.step (ow R2)).trans (t4.trans t5)
            have sig : ∀ j, j ∉ is → σ4[j]? = (L2.wipe σ is)[j]? := fun j hj => k4 j fun m => hj (hw j m)
            -- the new list and its items across a step
            have keepD : ∀ {Z6 : Addr → Prop} {H6 : Hp} {R6 : Rs}, Step Z2 H2 (ow R2) Z6 H6 (ow R6) → H6 D = some (.lst accV) ∧ ¬ Z6 D ∧ ¬ ow R6 D ∧ TL K Z6 H6 accV accD rss ∧ ∀ a ∈ rss.flatten, ¬ ow R6 a ∧ a ≠ D ∧ (ow Rw a ∨ H1 a = none) := fun {Z6 H6 R6} t => by
              refine ⟨t.hh D _ h2D o2D, fun z => ?_, fun z => ?_, All3.imp tl fun v d rs m o => (s2.pend t o fun a ma => (tno a (mem_flatten_of m ma)).1).1, fun a ma => ⟨fun z => ?_, (tno a ma).2⟩⟩
              · rcases t.zn D z with z | z | z
                · exact z2D z
                · rw [h2D] at z; cases z
                · exact o2D z
              · rcases t.on D z with z | z
                · exact o2D z
                · rw [h2D] at z; cases z
              · rcases t.on a z with z | z
                · exact (tno a ma).1 z
                · exact TL.there tl a ma z
            cases b with
            | false =>
              rw [if_neg Bool.false_ne_true] at e3
              refine iteF ?_
              obtain ⟨Rx, sx, x1, x2, x3, x4⟩ := s5.wipe is
              have owx : ∀ a, ow Rx a → ow R5 a := fun a ⟨k, m⟩ => by
                by_cases ck : k ∈ is
                · rw [x2 k ck] at m; simp at m
                · exact ⟨k, by rw [← x1 k ck]; exact m⟩
              have sx : S K Z5 H5 (L2.wipe σ is) (wipeE E5 is) Rx := sx.sigma (by have a1 := s5.len; have a2 := s4.len; have a3 := hgl _ _ _ e4; have a4 := s2.len; have a5 := wipe_length σ is; omega) fun j hj => (sig j fun m => hj (x4 j m)).symm
              have tx : Step Z2 H2 (ow R2) Z5 H5 (ow Rx) := t35.trans ⟨fun _ h => h, fun _ h => .inl h, fun _ _ h _ => h, fun a h => .inl (owx a h), fun _ h => h⟩
              obtain ⟨k1, k2, k3, k4', k5⟩ := keepD tx
              exact ⟨_, by omega, Z5, _, Rx, accV, accD, rss, sx, t2.trans tx, x2, by have a1 := s5.len; have a2 := s4.len; have a3 := hgl _ _ _ e4; rw [wipeE_len]; omega, k1, k2, k3, k4', tnd, k5, e3, rfl, hlt⟩
            | true =>
              rw [if_pos rfl] at e3
              refine iteT ?_
              cases e6 : f E5 with
              | none => rw [e6] at e3; cases e3
              | some p6 =>
                obtain ⟨o6, E6⟩ := p6
                rw [e6] at e3
                simp only [Option.bind_some] at e3
                cases e7 : tk E6 o6 with
                | none => rw [e7] at e3; cases e3
                | some p7 =>
                  obtain ⟨dv, nv, E7⟩ := p7
                  rw [e7] at e3
                  simp only [Option.bind_some] at e3
                  split at e3
                  · rename_i hsz
                    refine ⟨Z5, E5, R5, s5, o6, E6, e6, fun y6 Z6 H6 R6 rs6 s6 t6 ov6 f6 => ?_⟩
                    obtain ⟨Z7, R7, s7, t7, o7, n7, sub7⟩ := s6.take ov6 f6.no e7
                    obtain ⟨Rx, sx, x1, x2, x3, x4⟩ := s7.wipe is
                    have owx : ∀ a, ow Rx a → ow R7 a := fun a ⟨k, m⟩ => by
                      by_cases ck : k ∈ is
                      · rw [x2 k ck] at m; simp at m
                      · exact ⟨k, by rw [← x1 k ck]; exact m⟩
                    have l7 : E7.length = E1.length := by have a1 := s7.len; have a2 := s4.len; have a3 := hgl _ _ _ e4; omega
                    have sx : S K Z7 H6 (L2.wipe σ is) (wipeE E7 is) Rx := sx.sigma (by have a1 := s7.len; have a4 := s2.len; have a5 := wipe_length σ is; omega) fun j hj => (sig j fun m => hj (x4 j m)).symm
                    have tx : Step Z2 H2 (ow R2) Z7 H6 (ow Rx) := (t35.trans (t6.trans t7)).trans ⟨fun _ h => h, fun _ h => .inl h, fun _ _ h _ => h, fun a h => .inl (owx a h), fun _ h => h⟩
                    obtain ⟨k1, k2, k3, k4', k5⟩ := keepD tx
                    refine ⟨accV, k1, by rw [TL.len tl]; exact hsz, ?_⟩
                    -- what the new item has is not the list, not in it
                    have of6 : ∀ a ∈ rs6, ow R2 a ∨ H2 a = none := fun a ma => by
                      rcases f6.of a ma with z | z
                      · exact t35.on a z
                      · cases cc : H2 a with
                        | none => exact .inr rfl
                        | some u => exact absurd z (t35.dm a (by rw [cc]; simp))
                    have neD : ∀ a ∈ rs6, a ≠ D := fun a ma e => by
                      subst e
                      rcases of6 a ma with z | z
                      · exact o2D z
                      · rw [h2D] at z; cases z
                    have apart : ∀ a ∈ rs6, a ∉ rss.flatten := fun a ma z => by
                      rcases of6 a ma with y | y
                      · exact (tno a z).1 y
                      · exact TL.there tl a z y
                    obtain ⟨s8, p8⟩ := sx.free (o' := .lst (accV ++ [y6])) k1 trivial k3 k2
                    have tl8 : TL K Z7 (upd H6 D (.lst (accV ++ [y6]))) (accV ++ [y6]) (accD ++ [(dv, nv)]) (rss ++ [rs6]) :=
                      All3.append (All3.imp k4' fun v d rs m o => o.keep p8 fun a ma => ⟨upd_ne (k5 a (mem_flatten_of m ma)).2.1, (o.mut a ma).2⟩)
                        (.cons (o7.keep p8 fun a ma => ⟨upd_ne (neD a ma), (o7.mut a ma).2⟩) .nil)
                    have t8 : Step Z1 H1 (ow Rw) Z7 (upd H6 D (.lst (accV ++ [y6]))) (ow Rx) := by
                      have tt := t2.trans tx
                      refine ⟨tt.zz, tt.zn, fun a o ho h => ?_, tt.on, fun a h e => ?_⟩
                      · have ne : a ≠ D := fun e => by rw [e, hD] at ho; cases ho
                        rw [upd_ne ne]; exact tt.hh a o ho h
                      · by_cases ca : a = D
                        · rw [ca, upd_same] at e; cases e
                        · rw [upd_ne ca] at e; exact tt.dm a h e
                    refine ⟨_, by omega, Z7, _, Rx, accV ++ [y6], accD ++ [(dv, nv)], rss ++ [rs6], s8, t8, x2, by rw [wipeE_len, l7], upd_same, k2, k3, tl8, ?_, fun a ma => ?_, e3, rfl, hlt⟩
                    · rw [List.flatten_append]
                      simp only [List.flatten_cons, List.flatten_nil, List.append_nil]
                      exact List.nodup_append.mpr ⟨tnd, f6.nd, fun a ma b mb e => apart b mb (e ▸ ma)⟩
                    · rw [List.flatten_append] at ma
                      simp only [List.flatten_cons, List.flatten_nil, List.append_nil, List.mem_append] at ma
                      rcases ma with ma | ma
                      · exact k5 a ma
                      · refine ⟨fun z => n7 a ma (owx a z), neD a ma, ?_⟩
                        rcases of6 a ma with z | z
                        · exact t2.on a z
                        · cases cc : H1 a with
                          | none => exact .inr rfl
                          | some u => exact absurd z (t2.dm a (by rw [cc]; simp))
                  · cases e3
      · left
        have ei : i = its.length := by omega
        subst ei
        rw [List.drop_length] at e3
        cases e3
        refine ⟨ok.stop Z2 H2 p2, ?_⟩
        obtain ⟨Z3, rs3, s3, o3, nd3, in3, zz3, zn3⟩ := s2.oldList tl tnd (fun a m => (tno a m).1) h2D z2D fun a m => (tno a m).2.1
        -- the hidden slots again
        have hidN : ∀ k ∈ is, ∀ a ∈ R1 k, ¬ ow Rw a := fun k hk a ma ⟨l, ml⟩ => by
          by_cases cl : l ∈ is
          · rw [w2 l cl] at ml; simp at ml
          · rw [w1 l cl] at ml
            exact cl ((s1.dj k l a ma ml) ▸ hk)
        have hidH : ∀ k ∈ is, ∀ a ∈ R1 k, H2 a = H1 a ∧ ¬ Z3 a ∧ ¬ ow R2 a ∧ a ≠ D ∧ a ∉ rss.flatten := fun k hk a ma => by
          have th := s1.there ⟨k, ma⟩
          have nf : a ∉ rss.flatten := fun z => by
            rcases (tno a z).2.2 with y | y
            · exact hidN k hk a ma y
            · exact th y
          refine ⟨?_, fun z => ?_, fun z => ?_, fun e => th (by rw [e]; exact hD), nf⟩
          · cases cc : H1 a with
            | none => exact absurd cc th
            | some u => exact t2.hh a u cc (hidN k hk a ma)
          · rcases zn3 a z with z | z
            · rcases t2.zn a z with z | z | z
              · exact (s1.owns ⟨k, ma⟩).2 z
              · exact th z
              · exact hidN k hk a ma z
            · exact nf z
          · rcases t2.on a z with z | z
            · exact hidN k hk a ma z
            · exact th z
        let RF : Rs := fun k => if k ∈ is then R1 k else R2 k
        obtain ⟨bl, bg⟩ := backE_get is E1 EF
        have sF : S K Z3 H2 σ (backE E1 EF is) RF := by
          refine ⟨by rw [bl, l2, ← s1.len], fun k d n ek => ?_, fun k ek => ?_, fun k => ?_, fun k l a m1 m2 => ?_, s3.zd⟩
          · rw [bg k] at ek
            by_cases ck : k ∈ is
            · by_cases cl : k < EF.length
              · rw [if_pos ⟨ck, cl⟩] at ek
                obtain ⟨v, hv, ov⟩ := s1.slot k d n ek
                refine ⟨v, hv, ?_⟩
                have eR : RF k = R1 k := if_pos ck
                rw [eR]
                exact ov.keep ⟨fun a z => zz3 a (p2.zz a z), p2.hz, p2.tp⟩ fun a ma => ⟨(hidH k ck a ma).1, (hidH k ck a ma).2.1⟩
              · rw [if_neg fun h => cl h.2] at ek
                exact absurd (eg_lt ek) cl
            · rw [if_neg fun h => ck h.1] at ek
              obtain ⟨v, hv, ov⟩ := s3.slot k d n ek
              have eR : RF k = R2 k := if_neg ck
              rw [eR]
              exact ⟨v, by rw [← wipe_out ck]; exact hv, ov⟩
          · rw [bg k] at ek
            by_cases ck : k ∈ is
            · have eR : RF k = R1 k := if_pos ck
              rw [eR]
              by_cases cl : k < EF.length
              · rw [if_pos ⟨ck, cl⟩] at ek
                exact s1.emp k ek
              · refine s1.emp k ?_
                unfold eg
                rw [List.getElem?_eq_none (by omega)]; rfl
            · rw [if_neg fun h => ck h.1] at ek
              have eR : RF k = R2 k := if_neg ck
              rw [eR]
              exact s3.emp k ek
          · by_cases ck : k ∈ is
            · have eR : RF k = R1 k := if_pos ck
              rw [eR]; exact s1.nd k
            · have eR : RF k = R2 k := if_neg ck
              rw [eR]; exact s2.nd k
          · by_cases ck : k ∈ is
            · have eR : RF k = R1 k := if_pos ck
              rw [eR] at m1
              by_cases cl : l ∈ is
              · have eR : RF l = R1 l := if_pos cl
                rw [eR] at m2
                exact s1.dj k l a m1 m2
              · have eR : RF l = R2 l := if_neg cl
                rw [eR] at m2
                exact absurd ⟨l, m2⟩ (hidH k ck a m1).2.2.1
            · have eR : RF k = R2 k := if_neg ck
              rw [eR] at m1
              by_cases cl : l ∈ is
              · have eR : RF l = R1 l := if_pos cl
                rw [eR] at m2
                exact absurd ⟨k, m1⟩ (hidH l cl a m2).2.2.1
              · have eR : RF l = R2 l := if_neg cl
                rw [eR] at m2
                exact s2.dj k l a m1 m2
        have back : ∀ a, H1 a = none → H a = none := fun a h => by
          cases cc : H a with
          | none => rfl
          | some u => exact absurd h (t1.dm a (by rw [cc]; simp))
        have owF : ∀ a, ow RF a → ow R1 a ∨ ow R2 a := fun a ⟨k, m⟩ => by
          by_cases ck : k ∈ is
          · have eR : RF k = R1 k := if_pos ck
            rw [eR] at m; exact .inl ⟨k, m⟩
          · have eR : RF k = R2 k := if_neg ck
            rw [eR] at m; exact .inr ⟨k, m⟩
        have R2on : ∀ a, ow R2 a → ow R a ∨ H a = none := fun a h => by
          rcases t2.on a h with z | z
          · exact t1.on a (owR a z)
          · exact .inr (back a z)
        have flon : ∀ a ∈ rss.flatten, ow R a ∨ H a = none := fun a m => by
          rcases (tno a m).2.2 with z | z
          · exact t1.on a (owR a z)
          · exact .inr (back a z)
        have tF : Step Z H (ow R) Z3 H2 (ow RF) := by
          refine ⟨fun a z => zz3 a (p2.zz a (t1.zz a z)), fun a z => ?_, fun a u hu ha => ?_, fun a h => ?_, fun a h => t2.dm a (t1.dm a h)⟩
          · rcases zn3 a z with z | z
            · rcases t2.zn a z with z | z | z
              · exact t1.zn a z
              · exact .inr (.inl (back a z))
              · rcases t1.on a (owR a z) with y | y
                · exact .inr (.inr y)
                · exact .inr (.inl y)
            · rcases flon a z with y | y
              · exact .inr (.inr y)
              · exact .inr (.inl y)
          · refine t2.hh a u (t1.hh a u hu ha) fun z => ?_
            rcases t1.on a (owR a z) with y | y
            · exact ha y
            · rw [hu] at y; cases y
          · rcases owF a h with z | z
            · exact t1.on a z
            · exact R2on a z
        refine q (.ref D) Z3 H2 RF rs3 sF tF o3 ⟨nd3, fun a m z => ?_, fun a m => ?_⟩
        · rcases in3 a m with rfl | mm
          · rcases owF a z with y | y
            · exact s1.there y hD
            · exact o2D y
          · rcases owF a z with y | y
            · obtain ⟨k, mk⟩ := y
              rcases (tno a mm).2.2 with z' | z'
              · by_cases ck : k ∈ is
                · exact hidN k ck a mk z'
                · obtain ⟨l, ml⟩ := z
                  by_cases cl : l ∈ is
                  · have eR : RF l = R1 l := if_pos cl
                    rw [eR] at ml
                    exact hidN l cl a ml z'
                  · have eR : RF l = R2 l := if_neg cl
                    rw [eR] at ml
                    exact (tno a mm).1 ⟨l, ml⟩
              · exact s1.there ⟨k, mk⟩ z'
            · exact (tno a mm).1 y
        · rcases in3 a m with rfl | mm
          · exact .inr (back a hD)
          · exact flon a mm
where
  elen {Z Z' : Addr → Prop} {H H' : Hp} {σ : L2.St} {E E' : Ev} (h : σ.length = E'.length) (h' : σ.length = E.length) : E.length = E'.length := by rw [← h, h']
end
end Zk
namespace Zk
open PySem PySem.Spec PyProof.Rows L2
section
variable {K : PySem.W.Frag} {H : Hp} {σ : L2.St}
theorem gl_v {i : Nat} : GL (tgV i) := fun d E E' h => by
  unfold tgV at h
  split at h
  · cases h; simp
  · cases h
def GLs (g : List D → Ev → Option Ev) : Prop := ∀ ds E E', g ds E = some E' → E'.length = E.length
theorem gl_n : GLs tgN := fun ds E E' h => by
  unfold tgN at h
  split at h
  · cases h; rfl
  · cases h
theorem gl_c {f : Fg} {g : List D → Ev → Option Ev} (hf : GL f) (hg : GLs g) : GLs (tgC f g) := fun ds E E' h => by
  unfold tgC at h
  split at h
  · rename_i d ds
    cases e : f d E with
    | none => rw [e] at h; cases h
    | some E1 =>
      rw [e] at h
      exact (hg _ _ _ h).trans (hf _ _ _ e)
  · cases h
theorem gl_t {n : Nat} {g : List D → Ev → Option Ev} (hg : GLs g) : GL (tgT n g) := fun d E E' h => by
  unfold tgT at h
  repeat' split at h
  all_goals first | exact hg _ _ _ h | cases h
theorem mYes_of {Q : Bool → Hp → Prop} (q : cOf K mYes σ H Q) : tYes σ H Q := by
  obtain ⟨Z, E, R, s, b, E', e, q⟩ := q
  cases e
  exact q Z H R s .refl
theorem PTs.mono {X : Cx} {ifs : List Expr} {t t' : TT} (h : PTs X ifs t) (m : ∀ σ H Q, t' σ H Q → t σ H Q) : PTs X ifs t' := ⟨fun pins s σ H Q I q => h.run pins s σ H Q I (m σ H Q q)⟩
end
section
variable {X : Cx} {e e2 c elt tg iter : Expr} {es ifs : List Expr} {fe fk fv : Fe} {ft : Ft} {fi : Fi} {g : Fg} {scope : Scope} {pos pos' spos py : PySem.Pos} {w : List Nat} {own : List (Str × Nat)}
abbrev ATs (X : Cx) (ifs : List Expr) (c : Ft) : Prop := PTs X ifs (cOf X.K c)
theorem ats_nil : ATs X [] mYes := PTs.mono pts_nil fun _ _ _ q => mYes_of q
theorem ats_one (h : AT X c ft) : ATs X [c] ft := pts_one h
/-- [elt for tg in iter if ..] -/
theorem ae_lc (own : List (Str × Nat)) (hN : X.N.Nodup) (ok : BlkOk X.N X.env.scope scope own) (hi : AI X tg iter fi)
    (hg : ∀ (s : Shared) (H : Hp) (C : Addr) (cl : List (Str × Addr)) (fp : List Addr), AG (X.blk s H scope (compEnvC scope cl C X.env) fp) tg w g)
    (ht : ∀ (s : Shared) (H : Hp) (C : Addr) (cl : List (Str × Addr)) (fp : List Addr), ATs (X.blk s H scope (compEnvC scope cl C X.env) fp) ifs ft)
    (he : ∀ (s : Shared) (H : Hp) (C : Addr) (cl : List (Str × Addr)) (fp : List Addr), AE (X.blk s H scope (compEnvC scope cl C X.env) fp) elt fe)
    (hgl : GL g) (hw : ∀ i ∈ w, i ∈ own.map (·.2) := by decide) (hc : X.calm = true := by rfl) (hs : ∀ x, foldedSetIterable iter X.env x = pure x := by intro _; rfl) :
    AE X (.ListComp elt [⟨tg, iter, ifs, 0⟩] scope pos) (mLc fi (own.map (·.2)) g ft fe) :=
  PE.mono (pe_lc hc hN hi ok hg ht he hs) fun σ H Q q => lc_of hgl hw q
/-- y = [elt for tg in iter if ..] on one line -/
theorem as_setLc (i : Nat) {y : Str} (own : List (Str × Nat)) (hN : X.N.Nodup) (ok : BlkOk X.N X.env.scope scope own) (hi : AI X tg iter fi)
    (hg : ∀ (s : Shared) (H : Hp) (C : Addr) (cl : List (Str × Addr)) (fp : List Addr), AG (X.blk s H scope (compEnvC scope cl C X.env) fp) tg w g)
    (ht : ∀ (s : Shared) (H : Hp) (C : Addr) (cl : List (Str × Addr)) (fp : List Addr), ATs (X.blk s H scope (compEnvC scope cl C X.env) fp) ifs ft)
    (he : ∀ (s : Shared) (H : Hp) (C : Addr) (cl : List (Str × Addr)) (fp : List Addr), AE (X.blk s H scope (compEnvC scope cl C X.env) fp) elt fe)
    (hgl : GL g) (ha : (scope.names.any fun (n, k) => n == y && (k == .local || k == .cell)) = false) (hy : X.N[i]? = some y := by rfl) (hyl : X.env.scope.names.lookup y = some .local := by rfl) (hk : X.env.scope.kind = .function := by rfl) (hl : (py.line == pos.line) = true := by rfl)
    (hw : ∀ i ∈ w, i ∈ own.map (·.2) := by decide) (hc : X.calm = true := by rfl) (hs : ∀ x, foldedSetIterable iter X.env x = pure x := by intro _; rfl) :
    AS X (.Assign [.Name y py] (.ListComp elt [⟨tg, iter, ifs, 0⟩] scope pos) spos) [i] (mSet i (mLc fi (own.map (·.2)) g ft fe)) :=
  PS.mono (ps_setLc hc hN hy hyl (sw_true hk hyl hl ha) hi ok hg ht he hs) fun D σ H q => lc_of hgl hw (set_of q)
end
section
variable {K : PySem.W.Frag} {Z Z' Zf Z0 : Addr → Prop} {H H' H0 : Hp} {σ : L2.St} {E E' : Ev} {R R' R0 : Rs}
/-- a new dict -/
def mDicK : Fe := fun E => some (.val (.dK []) 9, E)
theorem dicK_of {Q : VK} (q : eOf K mDicK σ H Q) : tDNewK σ H Q := by
  obtain ⟨Z, E, R, s, o, E', e, q⟩ := q
  cases e
  intro p hp
  have nz : ¬ Z p := fun z => s.zd p z hp
  exact q (.ref p) Z _ R [p] (s.more (.upd hp)) (Step.fin .refl (fun _ h => h) (fun a z => .inl z) (.upd hp) fun a h => .inl h) ⟨p, [], [], rfl, upd_same, nz, rfl, .nil, rfl⟩ ⟨by simp, fun a m => by
    have e : a = p := by simpa using m
    subst e; exact fun z => s.there z hp, fun a m => by
    have e : a = p := by simpa using m
    subst e; exact .inr hp⟩
/-- the int keys of a dict -/
def keyI : List (Key × D) → Option (List Int)
  | [] => some []
  | (.inl i, _) :: kds => (keyI kds).map (i :: ·)
  | _ => none
theorem keyI_eq : ∀ {kds : List (Key × D)} {ks : List Int}, keyI kds = some ks → kds.map (·.1) = ks.map Sum.inl
  | [], _, h => by cases h; rfl
  | (.inl i, _) :: kds, ks, h => by
    simp only [keyI] at h
    cases q : keyI kds with
    | none => rw [q] at h; cases h
    | some ms => rw [q] at h; cases h; simp [keyI_eq q]
  | (.inr i, _) :: kds, ks, h => by simp [keyI] at h
def rSrtD : List V → Hp → VK → Prop := fun ws H Q => ∃ (b : Addr) (its : List (Key × V)) (ns : List Int), ws = [.ref b] ∧ Rd H b (.dK its) ∧ its.map (·.1) = ns.map Sum.inl ∧
    ∀ (ms : List Int) (q : Addr), ms.Perm ns → ms.Pairwise (· ≤ ·) → H q = none → Q (.ref q) (upd H q (.lst (ms.map V.int)))
theorem ints_all : ∀ {ws : List Value} {ns : List Int}, ws.length = ns.length → (∀ (j : Nat) (w : Value), ws[j]? = some w → ∃ (i : Int) (t : Tok), ns[j]? = some i ∧ w = Value.int i t) → IntsAre ws ns
  | [], [], _, _ => .nil
  | w :: ws, n :: ns, hl, h => by
    obtain ⟨i, t, e, ew⟩ := h 0 w rfl
    cases e
    cases ew
    exact .cons _ _ (ints_all (Nat.succ.inj hl) fun j u eu => h (j + 1) u (by simpa using eu))
  | [], _ :: _, hl, _ => by cases hl
  | _ :: _, [], hl, _ => by cases hl
theorem cr_srtD {X : Cx} (calm : X.calm = true) : CallR X (.builtin "sorted") rSrtD := by
  intro P' st sg G ws vs Q2 iv rs qq
  obtain ⟨b, its, ns, rfl, rdd, hkey, qq⟩ := qq
  obtain ⟨u0, rfl, r0⟩ := vals1 rs
  cases r0
  obtain ⟨zz, low, dvs, rl, dob⟩ := dk_rd iv.hok rdd
  obtain ⟨epo, dat⟩ := dob.dictAt
  have keq : dvs.map (·.1) = ns.map Sum.inl := rl.keys.symm.trans hkey
  have len : dvs.length = ns.length := by simpa using congrArg List.length keq
  have le : dvs.length ≤ sizeLine := by rw [← rl.length]; exact zz
  refine Calls.call_function_entry PyProof.Rows.kind_sorted
    PyProof.Rows.plain_sorted PyProof.Rows.entry_sorted
    (PyProof.Rows.args_sorted1 _) ?_
  unfold Builtin.«sorted»
  refine wpAny_bind
    (m := checkCount "sorted" 1 1 _) (wpAny_pure ?_)
  refine wpAny_bind (PySem.W.kdu_collect
    (A := X.A.in1)
    (PySem.W.kdl_dict (knd := mixKind X.prog X.w)
      (kvs := dvs) (ep := epo) low)
    (iv.ok.hd calm) dat le fun hp2 tk2 got kept2 hgot => ?_)
  have gl : got.toList.length = ns.length := by rw [Array.length_toList, hgot.1, len]
  have gi : IntsAre got.toList ns := ints_all gl fun j w ew => by
    obtain ⟨k, w2, e1, e2⟩ := hgot.2 j w (by simpa using ew)
    have e3 : (ns.map (Sum.inl (β := Str)))[j]? = some k := by
      rw [← keq, List.getElem?_map, e1]; rfl
    rw [List.getElem?_map] at e3
    obtain ⟨n, en, rfl⟩ := Option.map_eq_some_iff.mp e3
    have e2' : keyIs (Sum.inl n) w = true := e2
    rcases keyIs_shape e2' with ⟨i, t, ek, ev⟩ | ⟨z, t, ek, ev⟩
    · cases ek; exact ⟨n, t, en, ev⟩
    · cases ek
  have iv2 : Inv X P' sg G { st with heap := hp2, toks := tk2 } := iv.kept kept2
  have gz : got.toList.length ≤ sizeLine := by rw [gl, ← len]; exact le
  refine wpAny_bind (wpAny_newList ?_ gz)
  have at0 : (hp2.push (seqObj "list" got.toList.toArray 0)).get? hp2.objs.size = some (seqObj "list" got.toList.toArray 0) :=
    Heap.get?_push_size _ rfl
  show wpAny _ _ _ _ _ { st with
    heap := hp2.push (seqObj "list" got.toList.toArray 0), toks := tk2 }
  refine wpAny_bind (wpAny_holding (wpAny_call_entry
    PyProof.Rows.slot_list_sort ⟨_, at0, rfl⟩
    PyProof.Rows.entry_list_sort
    (SrtO.list_sort_ord SrtO.swo_int at0 gz (fun two => SrtO.ints_sortable gi two) fun out s1 s2 => ⟨_, rfl, ?_⟩)
    (PyProof.Rows.args_list_sort _)))
  obtain ⟨o1, o2, o3⟩ := SrtO.ints_out gi s1 s2
  obtain ⟨ep2, hh⟩ := PyProof.Rows.sortedHeap_at (vs := got.toList) (out := out.toArray) at0
  have ol : ((out.map SrtO.iv).map V.int).length ≤ sizeLine := by
    rw [List.length_map, o2.length_eq, ← gl]; exact gz
  refine wpAny_pure ⟨_, rfl, .ref hp2.objs.size, upd G hp2.objs.size (.lst ((out.map SrtO.iv).map V.int)),
    iv2.laid (t' := tk2) (fun c u e => ?_) (Nat.le_refl _) (show ObjOk X.prog X.w _ _ _ (.lst ((out.map SrtO.iv).map V.int)) from ⟨ol, out, ep2, vals_of_ints o1, hh⟩),
    rfl, qq _ _ o2 o3 (iv2.hok.fresh (Nat.le_refl _))⟩
  have lt : c < hp2.objs.size := Heap.lt_size e
  have ne := Nat.ne_of_lt lt
  rw [PyProof.Rows.sortedHeap_old ne (by rw [size_push']; exact Nat.lt_succ_of_lt lt)]
  exact Heap.get?_push_of_some _ e
/-- sorted(d), d's keys ints -/
def gSrtD : List D → Option (D × Nat)
  | [.dK kds] => (keyI kds).map fun ks => (.lst ((srt ks).map D.int), 9)
  | _ => none
theorem al_srtD : AL K rSrtD gSrtD := by
  intro Z H vs ds d n Q hz k e q
  unfold gSrtD at e
  split at e
  · rename_i kds
    cases e1 : keyI kds with
    | none => rw [e1] at e; cases e
    | some ks =>
      rw [e1] at e
      cases e
      obtain ⟨x, rfl, ⟨a, kvs, rfl, ha, e2, r⟩⟩ := k.one
      refine ⟨a, kvs, ks, rfl, ha, by rw [e2]; exact keyI_eq e1, fun ys p pm so hn => ?_⟩
      have e3 : ys = srt ks := srt_uniq (pm.trans (srt_perm ks).symm) so (srt_pair ks)
      subst e3
      have := fin_lst (Q := Q) hz (Rps.ofInts (K := K) (Z := Z) (H := H) (srt ks)) (by rw [lev_ints]; exact q)
      exact this p hn
  · cases e
def srtP (ps : List (Int × Int)) : List (Int × Int) := ps.mergeSort fun a b => !SrtO.lexB b a
theorem srtP_perm (ps : List (Int × Int)) : (srtP ps).Perm ps := List.mergeSort_perm _ _
theorem srtP_pair (ps : List (Int × Int)) : SrtO.Srtd SrtO.lexB (srtP ps) := by
  have h := List.pairwise_mergeSort (le := fun a b : Int × Int => !SrtO.lexB b a) (fun a b c h1 h2 => by
    simp only [Bool.not_eq_true', Bool.not_eq_eq_eq_not, Bool.not_true] at *
    have a1 := SrtO.lexB_no.mp h1
    have b1 := SrtO.lexB_no.mp h2
    refine SrtO.lexB_no.mpr ?_
    omega) (fun a b => by
    cases h1 : SrtO.lexB b a with
    | false => simp
    | true =>
      have a1 := SrtO.lexB_iff.mp h1
      have : SrtO.lexB a b = false := SrtO.lexB_no.mpr (by omega)
      simp [this]) ps
  exact h.imp fun h => by simpa using h
theorem srtP_uniq {xs ys : List (Int × Int)} (p : xs.Perm ys) (h1 : SrtO.Srtd SrtO.lexB xs) (h2 : SrtO.Srtd SrtO.lexB ys) : xs = ys :=
  p.eq_of_pairwise (le := fun a b => SrtO.lexB b a = false) (fun a b _ _ g1 g2 => by
    have a1 := SrtO.lexB_no.mp g1
    have a2 := SrtO.lexB_no.mp g2
    exact Prod.ext (by omega) (by omega)) h1 h2
/-- the pairs of some data -/
def pof : List D → Option (List (Int × Int))
  | [] => some []
  | .tup [.int i, .int j] :: ds => (pof ds).map ((i, j) :: ·)
  | _ => none
def prD (p : Int × Int) : D := .tup [.int p.1, .int p.2]
theorem pof_eq : ∀ {ds : List D} {ps : List (Int × Int)}, pof ds = some ps → ds = ps.map prD
  | [], _, h => by cases h; rfl
  | d :: ds, ps, h => by
    unfold pof at h
    split at h
    · rename_i e; cases e
    · rename_i i j ds' e
      cases e
      cases q : pof ds with
      | none => rw [q] at h; cases h
      | some ms => rw [q] at h; cases h; simp [pof_eq q, prD]
    · cases h
@[simp] theorem pof_map (ps : List (Int × Int)) : pof (ps.map prD) = some ps := by
  induction ps with
  | nil => rfl
  | cons p ps ih =>
    rw [List.map_cons]
    show (pof (ps.map prD)).map _ = _
    rw [ih]; rfl
def gSrtP : List D → Option (D × Nat)
  | [.lst ds] => (pof ds).map fun ps => (.lst ((srtP ps).map prD), 9)
  | _ => none
/-- the two ints behind a pair -/
def kOf (H : Hp) (x : V) : Int × Int := match x with
  | .ref t => match H t with
    | some (.tup [.int i, .int j]) => (i, j)
    | _ => (0, 0)
  | _ => (0, 0)
theorem Rp.pairE {Z : Addr → Prop} {v : V} {p : Int × Int} (h : Rp K Z H v (prD p)) : ∃ t, v = .ref t ∧ H t = some (.tup [.int p.1, .int p.2]) := by
  cases h with
  | tup s r =>
    obtain ⟨x, y, rfl, h1, h2⟩ := r.two
    cases h1.intE
    cases h2.intE
    exact ⟨_, rfl, s⟩
theorem Rps.pairs {Z : Addr → Prop} : ∀ {vs : List V} {ps : List (Int × Int)}, Rps K Z H vs (ps.map prD) → vs.map (kOf H) = ps ∧ ∀ x ∈ vs, ∃ t, x = V.ref t ∧ H t = some (.tup [.int (kOf H x).1, .int (kOf H x).2])
  | _, [], h => by cases h; exact ⟨rfl, fun x m => by simp at m⟩
  | _, p :: ps, h => by
    cases h with
    | cons h t =>
      obtain ⟨u, rfl, hu⟩ := Rp.pairE h
      obtain ⟨e, q⟩ := Rps.pairs t
      have ek : kOf H (.ref u) = p := by simp [kOf, hu]
      refine ⟨by rw [List.map_cons, e, ek], fun x m => ?_⟩
      rcases List.mem_cons.mp m with rfl | m
      · exact ⟨u, rfl, by rw [ek]; exact hu⟩
      · exact q x m
theorem Rps.ofPairs {Z : Addr → Prop} : ∀ {vs : List V}, (∀ x ∈ vs, ∃ t, x = V.ref t ∧ H t = some (.tup [.int (kOf H x).1, .int (kOf H x).2])) → Rps K Z H vs ((vs.map (kOf H)).map prD)
  | [], _ => .nil
  | v :: vs, h => by
    obtain ⟨t, e, ht⟩ := h v List.mem_cons_self
    refine .cons ?_ (Rps.ofPairs fun x m => h x (List.mem_cons_of_mem _ m))
    rw [e] at ht ⊢
    exact .tup ht (.cons (.int _) (.cons (.int _) .nil))
theorem al_srtP : AL K (rSortedPO K) gSrtP := by
  intro Z H vs ds d n Q hz k e q
  unfold gSrtP at e
  split at e
  · rename_i ds
    cases e1 : pof ds with
    | none => rw [e1] at e; cases e
    | some ps =>
      rw [e1] at e
      cases e
      cases pof_eq e1
      obtain ⟨x, rfl, ⟨p, xs, rfl, hp, r⟩⟩ := k.one
      obtain ⟨ek, hx⟩ := r.pairs
      refine ⟨p, xs, kOf H, rfl, .inl (.inl hp), hx, fun ys p' so st hn => ?_⟩
      have hy : ∀ y ∈ ys, ∃ t, y = V.ref t ∧ H t = some (.tup [.int (kOf H y).1, .int (kOf H y).2]) := fun y hy => hx y (st.perm.mem_iff.mp hy)
      have ey : ys.map (kOf H) = srtP ps := srtP_uniq ((st.perm.map _).trans (by rw [ek]; exact (srtP_perm ps).symm)) (SrtO.srtd_map so) (srtP_pair ps)
      have ry := Rps.ofPairs (K := K) (Z := Z) hy
      rw [ey] at ry
      have lv : lev ((srtP ps).map prD) = 9 := by unfold lev; rw [imms_map _ (fun p => by simp [prD])]; rfl
      have := fin_lst (Q := Q) hz ry (by rw [lv]; exact q)
      exact this p' hn
  · cases e
section
variable {prg : Program} {wd : World} {Ar : Around} {EE : Value → Shared → Prop} {sh : Shared}
open PyProof.Rows in
theorem collect_tp {tp : Addr} {xs : List Value} {QQ : List Value → Shared → Prop} (isT : sh.heap.IsTuple tp xs.toArray) (sz : xs.length ≤ sizeLine)
    (qq : QQ xs { sh with heap := (sh.heap.push (seqObj "list" #[] 0)).update sh.heap.objs.size (Obj.mapSeq (· ++ xs.toArray)) }) :
    wpAny (model prg wd) Ar (collect (.ref tp)) QQ EE sh := by
  obtain ⟨ob, hob, cls, k, dat⟩ := isT
  have new0 : (sh.heap.push (seqObj "list" #[] 0)).get? sh.heap.objs.size = some (seqObj "list" #[] 0) := Heap.get?_push_size _ rfl
  have old0 : (sh.heap.push (seqObj "list" #[] 0)).get? tp = some ob := Heap.get?_push_of_some _ hob
  unfold collect
  refine wpAny_bind (wpAny_runValue
    (codeAny_builtin entry_proto_collect' ?_))
  show wpAny _ _
    (do again (.builtin "list.__iadd__" ⟨[← newList [], .ref tp], []⟩)) _ _ sh
  refine wpAny_bind (wpAny_newList (wpAny_pure
    ⟨Code.quiet_builtin _ (by decide +kernel), codeAny_builtin entry_list_iadd' ?_⟩))
  show wpAny _ _ (Builtin.List.listExtendWith (.ref sh.heap.objs.size)
    (.ref tp) (.ref sh.heap.objs.size)) _ _ { sh with heap := sh.heap.push (seqObj "list" #[] 0) }
  unfold Builtin.List.listExtendWith
  refine wpAny_bind (wpAny_typeOf (T := "tuple") ⟨ob, old0, cls⟩ ?_)
  have tt : (Value.type "tuple" == Value.type "tuple") = true := by rfl
  rw [if_pos (by rw [tt, Bool.or_true])]
  refine wpAny_bind (listItems_at old0 dat ?_)
  refine wpAny_bind (listItems_at (xs := #[]) (n := 0) new0 rfl ?_)
  rw [if_neg (by simp)]
  refine wpAny_bind (listUpdate_at (xs := #[]) (n := 0) new0 rfl ?_ (Nat.zero_le _)
    (by show (#[] ++ xs.toArray).size ≤ sizeLine + 1; simp only [Array.size_append, List.size_toArray, List.length_nil]; omega))
  refine wpAny_pure ?_
  show wpAny (model prg wd) Ar (do
      let o ← load sh.heap.objs.size
      match o.data with
      | .seq ys _ => pure ys.toList
      | _ => unsupported "internal:collect") QQ EE { sh with heap := (sh.heap.push (seqObj "list" #[] 0)).update sh.heap.objs.size (Obj.mapSeq (· ++ xs.toArray)) }
  refine wpAny_bind (wpAny_load (get?_update_seq new0 _) ?_)
  have ex : ((#[] : Array Value) ++ xs.toArray).toList = xs := by simp
  show wpAny _ _ (pure ((#[] : Array Value) ++ xs.toArray).toList) QQ EE _
  rw [ex]
  exact wpAny_pure qq
open PyProof.Rows in
theorem sorted_tp {tp : Addr} {xs : List Value} {lt : Value → Value → Bool} {QQ : Value → Shared → Prop} (O : SrtO.Swo lt) (isT : sh.heap.IsTuple tp xs.toArray) (sz : xs.length ≤ sizeLine)
    (able : 2 ≤ xs.length → ∀ (h₁ : Heap) (a : Addr), h₁.get? a = some (seqObj "list" xs.toArray 0) → (∀ b o, sh.heap.get? b = some o → b ≠ a ∧ h₁.get? b = some o) → SrtO.SortableO prg wd Ar.in1.in1 { sh with heap := h₁ } a xs lt)
    (qq : ∀ ys : List Value, SrtO.Srtd lt ys → SrtO.Stb lt ys xs → QQ (.ref (sh.heap.objs.size + 1)) { sh with heap := sortedAll sh.heap xs ys.toArray }) :
    wpAny (model prg wd) Ar (call (.builtin "sorted") [.ref tp]) QQ EE sh := by
  refine Calls.call_function_entry kind_sorted plain_sorted
    entry_sorted (args_sorted1 _) ?_
  unfold Builtin.«sorted»
  refine wpAny_bind
    (m := checkCount "sorted" 1 1 _) (wpAny_pure ?_)
  refine wpAny_bind (collect_tp isT sz ?_)
  refine wpAny_bind (wpAny_newList ?_ sz)
  have sz1 : ((sh.heap.push (seqObj "list" #[] 0)).update sh.heap.objs.size (Obj.mapSeq (· ++ xs.toArray))).objs.size = sh.heap.objs.size + 1 := by
    rw [Heap.size_update]; exact size_push' _ _
  have at1 : (((sh.heap.push (seqObj "list" #[] 0)).update sh.heap.objs.size (Obj.mapSeq (· ++ xs.toArray))).push (seqObj "list" xs.toArray 0)).get? (sh.heap.objs.size + 1) = some (seqObj "list" xs.toArray 0) := by
    have := Heap.get?_push_size ((sh.heap.push (seqObj "list" #[] 0)).update sh.heap.objs.size (Obj.mapSeq (· ++ xs.toArray))) (o := seqObj "list" xs.toArray 0) rfl
    rwa [sz1] at this
  have kp : ∀ b o, sh.heap.get? b = some o → b ≠ sh.heap.objs.size + 1 ∧ (((sh.heap.push (seqObj "list" #[] 0)).update sh.heap.objs.size (Obj.mapSeq (· ++ xs.toArray))).push (seqObj "list" xs.toArray 0)).get? b = some o := fun b o e => by
    have lt : b < sh.heap.objs.size := Heap.lt_size e
    have ne := Nat.ne_of_lt lt
    refine ⟨Nat.ne_of_lt (Nat.lt_succ_of_lt lt),
      Heap.get?_push_of_some _ ?_⟩
    rw [Heap.get?_update_ne _ _ _ _ ne]
    exact Heap.get?_push_of_some _ e
  show wpAny _ _ _ _ _ { sh with
    heap := ((sh.heap.push (seqObj "list" #[] 0)).update sh.heap.objs.size (Obj.mapSeq (· ++ xs.toArray))).push (seqObj "list" xs.toArray 0) }
  rw [sz1]
  refine wpAny_bind (wpAny_holding (wpAny_call_entry
    slot_list_sort ⟨_, at1, rfl⟩ entry_list_sort
    (SrtO.list_sort_ord O at1 sz (fun two => able two _ _ at1 kp) fun ys s1 s2 => ⟨_, rfl, ?_⟩) (args_list_sort _)))
  exact wpAny_pure ⟨_, rfl, qq ys s1 s2⟩
end
def rSrtT (K : PySem.W.Frag) : List V → Hp → VK → Prop := fun ws H Q => ∃ (b : Addr) (ns : List Int), ws = [.ref b] ∧ SqT K H b (ns.map V.int) ∧
    ∀ (ms : List Int) (q : Addr), ms.Perm ns → ms.Pairwise (· ≤ ·) → H q = none → Q (.ref q) (upd H q (.lst (ms.map V.int)))
theorem cr_srtT {X : Cx} : CallR X (.builtin "sorted") (rSrtT X.K) := by
  intro P' st sg G ws vs Q2 iv rs qq
  obtain ⟨b, ns, rfl, hs, qq⟩ := qq
  obtain ⟨us, rv, hl, hz⟩ := iv.tuple hs
  rw [Vals.ref1 rs]
  have hi := rv.ints
  have hz2 : us.length ≤ sizeLine := by rw [← rv.length]; exact hz
  refine sorted_tp SrtO.swo_int hl hz2 (fun two h₁ a' _ _ => SrtO.ints_sortable hi two) fun ys s1 s2 => ?_
  obtain ⟨o1, o2, o3⟩ := SrtO.ints_out hi s1 s2
  obtain ⟨ep, hh⟩ := PyProof.Rows.sortedAll_at st.heap us ys.toArray
  have ol : ((ys.map SrtO.iv).map V.int).length ≤ sizeLine := by
    rw [List.length_map, o2.length_eq]; rw [List.length_map] at hz; exact hz
  exact ⟨.ref _, upd G (st.heap.objs.size + 1) (.lst ((ys.map SrtO.iv).map V.int)),
    iv.laid (t' := st.toks) (fun _ _ => PyProof.Rows.sortedAll_old) (Nat.le_succ _) ⟨ol, ys, ep, vals_of_ints o1, hh⟩,
    rfl, qq _ _ o2 o3 (iv.hok.fresh (Nat.le_succ _))⟩
/-- sorted(t), t a tuple of ints -/
def gSrtT : List D → Option (D × Nat)
  | [.tup ds] => (iof ds).map fun ns => (.lst ((srt ns).map D.int), 9)
  | _ => none
theorem al_srtT : AL K (rSrtT K) gSrtT := by
  intro Z H vs ds d n Q hz k e q
  unfold gSrtT at e
  split at e
  · rename_i ds
    cases e1 : iof ds with
    | none => rw [e1] at e; cases e
    | some ns =>
      rw [e1] at e
      cases e
      cases iof_eq e1
      obtain ⟨x, rfl, h1⟩ := k.one
      cases h1 with
      | tup s r =>
        cases r.ints
        refine ⟨_, ns, rfl, .of s, fun ns' p' pm so hn => ?_⟩
        have e2 : ns' = srt ns := srt_uniq (pm.trans (srt_perm ns).symm) so (srt_pair ns)
        subst e2
        have := fin_lst (Q := Q) hz (Rps.ofInts (K := K) (Z := Z) (H := H) (srt ns)) (by rw [lev_ints]; exact q)
        exact this p' hn
  · cases e
def rSrtTP (K : PySem.W.Frag) : List V → Hp → VK → Prop := fun vs H Q => ∃ (b : Addr) (xs : List V) (k : V → Int × Int), vs = [V.ref b] ∧ SqT K H b xs ∧ (∀ x ∈ xs, ∃ t, x = V.ref t ∧ H t = some (.tup [.int (k x).1, .int (k x).2])) ∧
  ∀ ys q, SrtO.Srtd (ltP k) ys → SrtO.Stb (ltP k) ys xs → H q = none → Q (.ref q) (upd H q (.lst ys))
theorem cr_srtTP {X : Cx} : CallR X (.builtin "sorted") (rSrtTP X.K) := by
  intro P' st sg G ws vs Q2 iv rs qq
  obtain ⟨b, xs, kf, rfl, hs, each, qq⟩ := qq
  obtain ⟨us, rv, hl, hz⟩ := iv.tuple hs
  rw [Vals.ref1 rs]
  have hz2 : us.length ≤ sizeLine := by rw [← rv.length]; exact hz
  obtain ⟨e1, e2⟩ := refs_back rv fun x m => by
    obtain ⟨t, e, _⟩ := each x m
    exact ⟨t, e⟩
  have pairs : ∀ v ∈ us, ∃ t, v = Value.ref t ∧ G t = some (.tup [.int (kf (backV v)).1, .int (kf (backV v)).2]) := fun v hv => by
    obtain ⟨t, rfl⟩ := e2 v hv
    have hm : V.ref t ∈ xs := by rw [e1]; exact List.mem_map.mpr ⟨_, hv, rfl⟩
    obtain ⟨t', e, ht⟩ := each _ hm
    cases e
    exact ⟨t, rfl, ht⟩
  have old : ∀ v ∈ us, Srt.IsPair st.heap v (kf (backV v)).1 (kf (backV v)).2 := fun v hv => by
    obtain ⟨t, rfl, ht⟩ := pairs v hv
    obtain ⟨_, its2, r2, o, ho, hc, n, hd⟩ := iv.hok _ _ ht
    obtain ⟨u1, u2, rfl, ri, rj⟩ := vals2 r2
    obtain ⟨t1, rfl⟩ := ri
    obtain ⟨t2, rfl⟩ := rj
    exact ⟨t, o, t1, t2, n, rfl, ho, hc, hd⟩
  refine sorted_tp (lt := fun v u => SrtO.lexB (kf (backV v)) (kf (backV u))) (SrtO.swo_lex fun u => kf (backV u)) hl hz2 (fun two h₁ a' ea kp => ?_) fun ys s1 s2 => ?_
  · refine SrtO.pairs_sortableO (s := { st with heap := h₁ }) (by omega) (fun v hv => ?_) fun o e => ?_
    · exact (old v hv).keeps fun c o e _ => (kp c o e).2
    · have e' : some o = some (seqObj "list" us.toArray 0) := e.symm.trans ea
      cases e'
      intro c
      exact absurd (Value.type.inj c) (by decide)
  · have h3 : ∀ u ∈ ys, ∃ a, u = Value.ref a := fun u hu => e2 u (s2.perm.mem_iff.mp hu)
    obtain ⟨ep, hh⟩ := PyProof.Rows.sortedAll_at st.heap us ys.toArray
    have hb : SrtO.Stb (ltP kf) (ys.map backV) xs := by
      rw [e1]
      exact SrtO.Stb.map (ltP_swo kf) backV s2
    have ol : (ys.map backV).length ≤ sizeLine := by rw [hb.len]; exact hz
    exact ⟨.ref _, upd G (st.heap.objs.size + 1) (.lst (ys.map backV)),
      iv.laid (t' := st.toks) (fun _ _ => PyProof.Rows.sortedAll_old) (Nat.le_succ _) ⟨ol, ys, ep, vals_back h3, hh⟩,
      rfl, qq _ _ (SrtO.srtd_map s1) hb (iv.hok.fresh (Nat.le_succ _))⟩
def gSrtTP : List D → Option (D × Nat)
  | [.tup ds] => (pof ds).map fun ps => (.lst ((srtP ps).map prD), 9)
  | _ => none
theorem al_srtTP : AL K (rSrtTP K) gSrtTP := by
  intro Z H vs ds d n Q hz k e q
  unfold gSrtTP at e
  split at e
  · rename_i ds
    cases e1 : pof ds with
    | none => rw [e1] at e; cases e
    | some ps =>
      rw [e1] at e
      cases e
      cases pof_eq e1
      obtain ⟨x, rfl, h1⟩ := k.one
      cases h1 with
      | tup s r =>
        obtain ⟨ek, hx⟩ := r.pairs
        refine ⟨_, _, kOf H, rfl, .of s, hx, fun ys p' so st hn => ?_⟩
        have hy : ∀ y ∈ ys, ∃ t, y = V.ref t ∧ H t = some (.tup [.int (kOf H y).1, .int (kOf H y).2]) := fun y hy => hx y (st.perm.mem_iff.mp hy)
        have ey : ys.map (kOf H) = srtP ps := srtP_uniq ((st.perm.map _).trans (by rw [ek]; exact (srtP_perm ps).symm)) (SrtO.srtd_map so) (srtP_pair ps)
        have ry := Rps.ofPairs (K := K) (Z := Z) hy
        rw [ey] at ry
        have lv : lev ((srtP ps).map prD) = 9 := by unfold lev; rw [imms_map _ (fun p => by simp [prD])]; rfl
        have := fin_lst (Q := Q) hz ry (by rw [lv]; exact q)
        exact this p' hn
  · cases e
/-- sorted(t), t a tuple -/
def gSrtTT : List D → Option (D × Nat) := fun ds => match ds with
  | [.tup xs] => if (iof xs).isSome = true then gSrtT ds else gSrtTP ds
  | _ => none
def gSrtIP : List D → Option (D × Nat) := fun ds => match ds with
  | [.lst xs] => if (iof xs).isSome = true then gSrtI ds else gSrtP ds
  | _ => gSrtI ds
def gSrt1 : List D → Option (D × Nat) := fun ds => match ds with
  | [.dK _] => gSrtD ds
  | [.tup _] => gSrtTT ds
  | _ => gSrtIP ds
end
section
variable {X : Cx} {e e2 : Expr} {fe fk : Fe} {pos pos' px pt : PySem.Pos} {w : List Nat} {x : Str} {op : Operator} {f : Int → Int → Int}
theorem ae_dicK : AE X (.Dict [] [] pos) mDicK := PE.mono pe_dnewK fun _ _ _ q => dicK_of q
end
end Zk
namespace Zk
open PySem PySem.Spec PyProof.Rows L2

section
variable {P : Program} {w : World} {K : PySem.W.Frag} {mg : Str → Option Value} {base : Heap} {X : Cx}
theorem _root_.L2.Room.u1 {k : Nat} {A : Around} (hr : Room k A) : A.units + 1 < cLine := by have := hr.un; omega
theorem _root_.L2.Room.u64 {k : Nat} {A : Around} (hr : Room k A) : A.units + 64 < cLine := by have := hr.un; omega
theorem _root_.L2.Room.u65 {k : Nat} {A : Around} (hr : Room k A) : A.units + 65 < cLine := by have := hr.un; omega
/-- a def under its name, with its promise -/
def Ok (P : Program) (w : World) (K : PySem.W.Frag) (mg : Str → Option Value) (base : Heap) (k : Nat) (x : Str) (ps : List Str) (io : Option Nat) (np : Nat) (M : Mir) : Prop :=
  ∃ (f : Addr) (fd : FuncData), FnOk P w K mg base CX0 k f fd ps (spM K io np M) ∧ mg x = some (.ref f) ∧ PySem.W.keepIn K (.ref f) = true ∧ Binds K fd ps []
theorem Ok.mono {j k : Nat} {x : Str} {ps : List Str} {io : Option Nat} {np : Nat} {M : Mir} (o : Ok P w K mg base j x ps io np M) (h : j ≤ k) : Ok P w K mg base k x ps io np M := by
  obtain ⟨f, fd, F, a, b, c⟩ := o
  exact ⟨f, fd, F.mono h, a, b, c⟩
theorem fn_none {k : Nat} {f : Addr} {fd : FuncData} {ps : List Str} {io : Option Nat} {np : Nat} {M : Mir} (h : ∀ ds, M ds = none) : FnOk P w K mg base CX0 k f fd ps (spM K io np M) :=
  have no : ∀ {vs : List V} {H : Hp} {Q : VK} {E : XK}, spM K io np M vs H Q E → False := fun ⟨_, ds, _, _, _, _, _, _, _, d, n, o, e, _⟩ => by rw [h ds] at e; cases e
  ⟨fun vs H Q E q => (no q).elim, fun A outer s H args us vs Q E _ _ _ _ q => (no q).elim⟩
variable {k np : Nat} {ps : List Str} {x : Str} {p pos : PySem.Pos} {e : Expr} {es : List Expr} {fa : Fa} {M : Mir} {io : Option Nat}
/-- f(e, ..) -/
theorem ae_fn (o : Ok X.prog X.w X.K X.mg X.base k x ps io np M) (hr : Room k X.A) (hg : Gl X x) (ha : AA X (e :: es) fa)
    (hnp : ∀ E os E', fa E = some (os, E') → os.length = np) (hdb : (x == ("__debug__" : Str)) = false := by decide) (he : starEach (e :: es) X.env = (false, eval e X.env) :: starEach es X.env := by rfl) (hpl : (backTo pos (starEach es X.env)).any (·.1) = false := by rfl) :
    AE X (.Call (.Name x p) (e :: es) [] pos) (mCall io M fa) := by
  obtain ⟨f, fd, F, a, b, c⟩ := o
  exact ae_call F hr hg a b c ha hnp hdb he hpl
/-- the law's promise -/
theorem law_sp {M : Mir} {H : Hp} {a : Addr} {ns : List Int} {n : Nat} (h : ∀ ns : List Int, ns.length ≤ n → ∃ m o, M [.scr ns] = some (.bl true, m, o)) (hl : ns.length ≤ n) (hO : Only H) (hS : SqL K H a (ns.map V.int)) :
    spM K none 1 M [.ref a] H (fun v _ => v = .bl true) fun _ _ _ => False := by
  obtain ⟨m, o, e⟩ := h ns hl
  refine ⟨fun _ => False, [.scr ns], fun _ => [], rfl, rfl, fun a h => h.elim, fun i v d hv hd => ?_, fun _ _ => rfl, fun _ => List.nodup_nil, .bl true, m, o, e, fun v Z' H' rs' rr _ _ _ _ _ ow _ => ?_⟩
  · cases i with
    | zero =>
      cases hv
      cases hd
      rw [if_neg (by simp)]
      refine .scr ?_
      unfold SqF
      rcases hS with (h | ⟨o, h⟩) | h
      · rcases hO a with z | ⟨o, xs, z⟩
        · rw [z] at h; cases h
        · rw [z] at h; cases h
      · exact .inl ⟨o, h⟩
      · exact .inr h
    | succ i => simp at hv
  · exact (ow.imm (by simp)).2.blE
end
section
variable {K : PySem.W.Frag} {Z Z' Zf Z0 : Addr → Prop} {H H' H0 : Hp} {σ : L2.St} {E E' : Ev} {R R' R0 : Rs}
instance (a b : Int) : Decidable (RgOk a b) := inferInstanceAs (Decidable (_ ∧ _))
end
section
variable {X : Cx} {e e2 a b : Expr} {fe fk : Fe} {fa : Fa} {pos pos' px py pt : PySem.Pos} {x y : Str} {kt k2 : Nat} {pt2 p p2 : PySem.Pos}
theorem call_minA (hc : X.calm = true := by rfl) : CallR X (.builtin "min") (rMins X.K) := (cr_min hc).or (call_min2 hc)
theorem call_isiA : CallR X (.builtin "isinstance") (fun vs H Q => rIsi X.K vs H Q ∨ rIsiT X.K vs H Q ∨ rIsiK X.K vs H Q) := call_isi.or (call_isiT.or call_isiK)
def gSrtDT : List D → Option (D × Nat) := fun ds => match ds with
  | [.dK _] => gSrtD ds
  | _ => gSrtTT ds
def mSrt (a : Fe) : Fe := mOp gSrt1 (mAc a mA0)
theorem ae_srt {x : Str} (hg : Gl X x) (hm : X.mg x = none) (ha : AE X a fe) (hx : bootBuiltins x = some (.builtin "sorted") := by exact boot_sorted) (hc : X.calm = true := by rfl) (hn : x ≠ "__name__" := by decide) (hdb : (x == ("__debug__" : Str)) = false := by decide)
    (he : starEach [a] X.env = (false, eval a X.env) :: starEach [] X.env := by rfl) (hpl : (backTo pos (starEach [] X.env)).any (·.1) = false := by rfl) : AE X (.Call (.Name x p) [a] [] pos) (mSrt fe) :=
  PE.mono (PE.or (PE.or (PE.or (PE.or (pe_callB cr_sortedI hg hm hx (aa_cons ha aa_nil he) hn hdb he hpl) (pe_callB cr_sortedPO hg hm hx (aa_cons ha aa_nil he) hn hdb he hpl)) (pe_callB (cr_srtD hc) hg hm hx (aa_cons ha aa_nil he) hn hdb he hpl)) (pe_callB cr_srtT hg hm hx (aa_cons ha aa_nil he) hn hdb he hpl)) (pe_callB cr_srtTP hg hm hx (aa_cons ha aa_nil he) hn hdb he hpl)) fun σ H Q q => by
    have sp : ∀ ds, gSrt1 ds = gSrtIP ds ∨ gSrt1 ds = gSrtDT ds := fun ds => by
      unfold gSrt1 gSrtDT
      split
      · exact .inr rfl
      · exact .inr rfl
      · exact .inl rfl
    have sp3 : ∀ ds, gSrtDT ds = gSrtD ds ∨ gSrtDT ds = gSrtTT ds := fun ds => by
      unfold gSrtDT
      split
      · exact .inl rfl
      · exact .inr rfl
    have sp2 : ∀ ds, gSrtIP ds = gSrtI ds ∨ gSrtIP ds = gSrtP ds := fun ds => by
      unfold gSrtIP
      split
      · split
        · exact .inl rfl
        · exact .inr rfl
      · exact .inl rfl
    rcases op_split sp q with q | q
    · rcases op_split sp2 q with q | q
      · exact .inl (.inl (.inl (.inl (op_of al_srtI q))))
      · exact .inl (.inl (.inl (.inr (op_of al_srtP q))))
    · rcases op_split sp3 q with q | q
      · exact .inl (.inl (.inr (op_of al_srtD q)))
      · have sp4 : ∀ ds, gSrtTT ds = gSrtT ds ∨ gSrtTT ds = gSrtTP ds := fun ds => by
          unfold gSrtTT
          split
          · split
            · exact .inl rfl
            · exact .inr rfl
          · rename_i hne
            refine .inl ?_
            unfold gSrtT
            split
            · rename_i xs
              exact absurd rfl (hne xs)
            · rfl
        rcases op_split sp4 q with q | q
        · exact .inl (.inr (op_of al_srtT q))
        · exact .inr (op_of al_srtTP q)
end
end Zk
namespace Zk
open PySem PySem.Spec PyProof.Rows L2

structure Tg {α : Type} (Q : α → Prop) : Type where
/-- x tells something of which Q holds (the tag keeps simp out of Q until x is reckoned) -/
def W {α : Type} (x : Option α) (Q : α → Prop) (_ : Tg Q := ⟨⟩) : Prop := ∃ a, x = some a ∧ Q a
structure Tg2 (A B : Prop) : Type where
section
variable {α β : Type} {x : Option α} {Q Q' : β → Prop} {P P' : α → Prop}
@[simp ↓] theorem W_some {a : α} : W (some a) P ↔ P a := ⟨fun ⟨_, e, h⟩ => by cases e; exact h, fun h => ⟨_, rfl, h⟩⟩
@[simp ↓] theorem W_none : W (none : Option α) P ↔ False := by
  constructor
  · rintro ⟨_, e, _⟩
    cases e
  · intro h
    exact h.elim
@[simp ↓] theorem W_bind {f : α → Option β} : W (x.bind f) Q ↔ W x fun a => W (f a) Q := by
  cases x with
  | none => simp
  | some a => simp
@[simp ↓] theorem W_map {f : α → β} : W (x.map f) Q ↔ W x fun a => Q (f a) := by
  cases x with
  | none => simp
  | some a => simp
theorem W_ite {c : Prop} [Decidable c] {a b : Option α} : W (if c then a else b) P ↔ (c → W a P) ∧ (¬ c → W b P) := by
  by_cases h : c <;> simp [h]
@[simp ↓] theorem W_if1 {c : Prop} [Decidable c] {a : Option α} : W (if c then a else none) P ↔ c ∧ W a P := by
  by_cases h : c <;> simp [h]
theorem W_ext (h : ∀ a, P a ↔ P' a) : W x P ↔ W x P' := ⟨fun ⟨a, e, p⟩ => ⟨a, e, (h a).mp p⟩, fun ⟨a, e, p⟩ => ⟨a, e, (h a).mpr p⟩⟩
/-- one of two -/
def IfB (b : Bool) (A B : Prop) (_ : Tg2 A B := ⟨⟩) : Prop := (b = true → A) ∧ (b = false → B)
@[simp ↓] theorem IfB_t {A B : Prop} : IfB true A B ↔ A := by simp [IfB]
@[simp ↓] theorem IfB_f {A B : Prop} : IfB false A B ↔ B := by simp [IfB]
@[simp] theorem IfB_not {b : Bool} {A B : Prop} : IfB (!b) A B ↔ IfB b B A := by cases b <;> simp
@[simp 50] theorem IfB_of {b : Bool} {A B : Prop} : IfB b A B ↔ (b = true → A) ∧ (b = false → B) := Iff.rfl
@[simp 60] theorem IfB_d {c : Prop} [Decidable c] {A B : Prop} : IfB (decide c) A B ↔ (c → A) ∧ (¬ c → B) := by simp [IfB]
theorem W_iteB {b : Bool} {u v : Option α} : W (if b = true then u else v) P ↔ IfB b (W u P) (W v P) := by cases b <;> simp [W_ite]
theorem W.mono (h : W x P) (m : ∀ a, P a → P' a) : W x P' := by
  obtain ⟨a, e, p⟩ := h
  exact ⟨a, e, m a p⟩
theorem W.mp (h : W x P) : ∃ a, x = some a ∧ P a := h
theorem W.of {a : α} (h : x = some a) (p : P a) : W x P := ⟨a, h, p⟩
theorem W.eq {a : α} (h : x = some a) : W x P ↔ P a := by rw [h, W_some]
end
section
variable {E : Ev} {i n m : Nat} {d : D} {p : Option (D × Nat)} {l : Ev} {a b c : Fe} {fa : Fa} {ft fu : Ft} {s t : Fs} {it : Fi} {g : Fg} {gs : List D → Ev → Option Ev}
  {G : List D → Option D} {G2 : List D → Option (D × Nat)} {M : Mir} {os : List Op} {o : Op} {Qe : Op × Ev → Prop} {Qa : List Op × Ev → Prop} {Qt : Bool × Ev → Prop} {Qs : Fl × Ev → Prop} {Qi : List D × Ev → Prop} {Qg : Ev → Prop} {Qd : D → Prop} {Ql : List D → Prop} {Qk : D × Nat × Ev → Prop}
@[simp] theorem get_z {α : Type} {a : α} {l : List α} : (a :: l)[0]? = some a := rfl
@[simp] theorem get_s {α : Type} {a : α} {l : List α} : (a :: l)[n + 1]? = l[n]? := rfl
@[simp] theorem eg_0 : eg (p :: l) 0 = p := rfl
@[simp] theorem eg_s : eg (p :: l) (n + 1) = eg l n := rfl
@[simp] theorem eg_nil : eg [] n = none := by simp [eg]
@[simp ↓] theorem W_var : W (mVar i E) Qe ↔ (eg E i).isSome = true ∧ Qe (.slot i, E) := by unfold mVar; (repeat (first | exact Iff.rfl | (refine W_ext fun _ => ?_) | (refine W_bind.trans (W_ext fun _ => ?_)) | exact W_map | exact W_if1.trans Iff.rfl | (simp [W_ite, IfB]; done) | simp))
@[simp ↓] theorem W_c : W (mC d E) Qe ↔ Qe (.val d 9, E) := by unfold mC; (repeat (first | exact Iff.rfl | (refine W_ext fun _ => ?_) | (refine W_bind.trans (W_ext fun _ => ?_)) | exact W_map | exact W_if1.trans Iff.rfl | (simp [W_ite, IfB]; done) | simp))
@[simp ↓] theorem W_ro : W (mRO G fa E) Qe ↔ W (fa E) fun p => W (rdL p.2 p.1) fun ds => W (G ds) fun d => Qe (.val d 9, p.2) := by unfold mRO; (repeat (first | exact Iff.rfl | (refine W_ext fun _ => ?_) | (refine W_bind.trans (W_ext fun _ => ?_)) | exact W_map | exact W_if1.trans Iff.rfl | (simp [W_ite, IfB]; done) | simp))
@[simp ↓] theorem W_al : W (mAL G2 fa E) Qe ↔ W (fa E) fun p => W (akL p.2 p.1) fun q => W (G2 q.1) fun d => Qe (.val d.1 d.2, q.2) := by unfold mAL; (repeat (first | exact Iff.rfl | (refine W_ext fun _ => ?_) | (refine W_bind.trans (W_ext fun _ => ?_)) | exact W_map | exact W_if1.trans Iff.rfl | (simp [W_ite, IfB]; done) | simp))
@[simp ↓] theorem W_op : W (mOp G2 fa E) Qe ↔ W (fa E) fun p => W (rdL p.2 p.1) fun ds => W (G2 ds) fun d => IfB (imm d.1) (Qe (.val d.1 9, p.2)) (W (akL p.2 p.1) fun q => Qe (.val d.1 d.2, q.2)) := by
  unfold mOp
  simp only [W_bind, W_iteB, W_some, W_map]
  try (repeat (first | exact Iff.rfl | (refine W_ext fun _ => ?_) | (refine W_bind.trans (W_ext fun _ => ?_)) | exact W_map | exact W_if1.trans Iff.rfl | (simp [W_ite, IfB]; done) | simp))
@[simp ↓] theorem W_a0 : W (mA0 E) Qa ↔ Qa ([], E) := by unfold mA0; (repeat (first | exact Iff.rfl | (refine W_ext fun _ => ?_) | (refine W_bind.trans (W_ext fun _ => ?_)) | exact W_map | exact W_if1.trans Iff.rfl | (simp [W_ite, IfB]; done) | simp))
@[simp ↓] theorem W_a1 : W (mA1 a E) Qa ↔ W (a E) fun p => Qa ([p.1], p.2) := by unfold mA1; (repeat (first | exact Iff.rfl | (refine W_ext fun _ => ?_) | (refine W_bind.trans (W_ext fun _ => ?_)) | exact W_map | exact W_if1.trans Iff.rfl | (simp [W_ite, IfB]; done) | simp))
@[simp ↓] theorem W_a2 : W (mA2 a b E) Qa ↔ W (a E) fun p => W (b p.2) fun q => Qa ([p.1, q.1], q.2) := by unfold mA2; (repeat (first | exact Iff.rfl | (refine W_ext fun _ => ?_) | (refine W_bind.trans (W_ext fun _ => ?_)) | exact W_map | exact W_if1.trans Iff.rfl | (simp [W_ite, IfB]; done) | simp))
@[simp ↓] theorem W_ac : W (mAc a fa E) Qa ↔ W (a E) fun p => W (fa p.2) fun q => Qa (p.1 :: q.1, q.2) := by unfold mAc; (repeat (first | exact Iff.rfl | (refine W_ext fun _ => ?_) | (refine W_bind.trans (W_ext fun _ => ?_)) | exact W_map | exact W_if1.trans Iff.rfl | (simp [W_ite, IfB]; done) | simp))
@[simp ↓] theorem W_rdL_nil : W (rdL E []) Ql ↔ Ql [] := by simp [rdL]; try (repeat (first | exact Iff.rfl | (refine W_ext fun _ => ?_) | (refine W_bind.trans (W_ext fun _ => ?_)) | exact W_map | exact W_if1.trans Iff.rfl | (simp [W_ite, IfB]; done) | simp))
@[simp ↓] theorem W_rdL_cons : W (rdL E (o :: os)) Ql ↔ W (rd E o) fun d => W (rdL E os) fun ds => Ql (d :: ds) := by simp [rdL]; try (repeat (first | exact Iff.rfl | (refine W_ext fun _ => ?_) | (refine W_bind.trans (W_ext fun _ => ?_)) | exact W_map | exact W_if1.trans Iff.rfl | (simp [W_ite, IfB]; done) | simp))
@[simp ↓] theorem W_rd_val : W (rd E (.val d n)) Qd ↔ Qd d := by simp [rd]; try (repeat (first | exact Iff.rfl | (refine W_ext fun _ => ?_) | (refine W_bind.trans (W_ext fun _ => ?_)) | exact W_map | exact W_if1.trans Iff.rfl | (simp [W_ite, IfB]; done) | simp))
@[simp ↓] theorem W_rd_slot : W (rd E (.slot i)) Qd ↔ W (eg E i) fun p => Qd p.1 := by simp [rd]; try (repeat (first | exact Iff.rfl | (refine W_ext fun _ => ?_) | (refine W_bind.trans (W_ext fun _ => ?_)) | exact W_map | exact W_if1.trans Iff.rfl | (simp [W_ite, IfB]; done) | simp))
@[simp ↓] theorem W_akL_nil {Q : List D × Ev → Prop} : W (akL E []) Q ↔ Q ([], E) := by simp [akL]; try (repeat (first | exact Iff.rfl | (refine W_ext fun _ => ?_) | (refine W_bind.trans (W_ext fun _ => ?_)) | exact W_map | exact W_if1.trans Iff.rfl | (simp [W_ite, IfB]; done) | simp))
@[simp ↓] theorem W_akL_cons {Q : List D × Ev → Prop} : W (akL E (o :: os)) Q ↔ W (ak E o) fun p => W (akL p.2 os) fun q => Q (p.1 :: q.1, q.2) := by simp [akL]; try (repeat (first | exact Iff.rfl | (refine W_ext fun _ => ?_) | (refine W_bind.trans (W_ext fun _ => ?_)) | exact W_map | exact W_if1.trans Iff.rfl | (simp [W_ite, IfB]; done) | simp))
@[simp ↓] theorem W_ak_val {Q : D × Ev → Prop} : W (ak E (.val d n)) Q ↔ Q (d, E) := by simp [ak]; try (repeat (first | exact Iff.rfl | (refine W_ext fun _ => ?_) | (refine W_bind.trans (W_ext fun _ => ?_)) | exact W_map | exact W_if1.trans Iff.rfl | (simp [W_ite, IfB]; done) | simp))
@[simp ↓] theorem W_ak_slot {Q : D × Ev → Prop} : W (ak E (.slot i)) Q ↔ W (eg E i) fun p => IfB (imm p.1 || flat p.1 || decide (p.2 ≤ 1)) (Q (p.1, E)) (Q (p.1, E.set i (some (p.1, 0)))) := by
  unfold ak
  cases h : eg E i with
  | none => simp [h]
  | some p =>
    obtain ⟨d, n⟩ := p
    simp only [h, W_some, W_ite, IfB, Bool.or_eq_true, decide_eq_true_eq, Bool.or_eq_false_iff, decide_eq_false_iff_not, not_or, Bool.not_eq_true, or_assoc, and_assoc]
@[simp ↓] theorem W_tk_val : W (tk E (.val d n)) Qk ↔ Qk (d, n, E) := by simp [tk]; try (repeat (first | exact Iff.rfl | (refine W_ext fun _ => ?_) | (refine W_bind.trans (W_ext fun _ => ?_)) | exact W_map | exact W_if1.trans Iff.rfl | (simp [W_ite, IfB]; done) | simp))
@[simp ↓] theorem W_tk_slot : W (tk E (.slot i)) Qk ↔ W (eg E i) fun p => IfB (imm p.1) (Qk (p.1, 9, E)) (Qk (p.1, 0, E.set i (some (p.1, 0)))) := by
  unfold tk
  cases h : eg E i with
  | none => simp [h]
  | some p =>
    obtain ⟨d, n⟩ := p
    simp only [h, W_some, W_iteB]
    cases imm d <;> simp
@[simp ↓] theorem W_mv_val : W (mv E (.val d n)) Qk ↔ Qk (d, n, E) := by simp [mv]; try (repeat (first | exact Iff.rfl | (refine W_ext fun _ => ?_) | (refine W_bind.trans (W_ext fun _ => ?_)) | exact W_map | exact W_if1.trans Iff.rfl | (simp [W_ite, IfB]; done) | simp))
@[simp ↓] theorem W_mv_slot : W (mv E (.slot i)) Qk ↔ W (eg E i) fun p => IfB (imm p.1) (Qk (p.1, 9, E)) (Qk (p.1, p.2, E.set i none)) := by
  unfold mv
  cases h : eg E i with
  | none => simp [h]
  | some p =>
    obtain ⟨d, n⟩ := p
    simp only [h, W_some, W_iteB]
    cases imm d <;> simp
@[simp ↓] theorem W_tkL_nil {Q : List (D × Nat) × Ev → Prop} : W (tkL E []) Q ↔ Q ([], E) := by simp [tkL]; try (repeat (first | exact Iff.rfl | (refine W_ext fun _ => ?_) | (refine W_bind.trans (W_ext fun _ => ?_)) | exact W_map | exact W_if1.trans Iff.rfl | (simp [W_ite, IfB]; done) | simp))
@[simp ↓] theorem W_tkL_cons {Q : List (D × Nat) × Ev → Prop} : W (tkL E (o :: os)) Q ↔ W (tk E o) fun p => W (tkL p.2.2 os) fun q => Q ((p.1, p.2.1) :: q.1, q.2) := by simp [tkL]; try (repeat (first | exact Iff.rfl | (refine W_ext fun _ => ?_) | (refine W_bind.trans (W_ext fun _ => ?_)) | exact W_map | exact W_if1.trans Iff.rfl | (simp [W_ite, IfB]; done) | simp))
@[simp ↓] theorem W_add : W (mAdd a b E) Qe ↔ W (mAL gAdd (mA2 a b) E) Qe := Iff.rfl
@[simp ↓] theorem W_mul : W (mMul a b E) Qe ↔ W (mAL gMul (mA2 a b) E) Qe := Iff.rfl
@[simp ↓] theorem W_sub : W (mSub a b E) Qe ↔ W (mRO gSub (mA2 a b) E) Qe := Iff.rfl
@[simp ↓] theorem W_div : W (mDiv a b E) Qe ↔ W (mRO gDiv (mA2 a b) E) Qe := Iff.rfl
@[simp ↓] theorem W_mod : W (mMod a b E) Qe ↔ W (mRO gMod (mA2 a b) E) Qe := Iff.rfl
@[simp ↓] theorem W_pow : W (mPow a b E) Qe ↔ W (mRO gPow (mA2 a b) E) Qe := Iff.rfl
@[simp ↓] theorem W_shl : W (mShl a b E) Qe ↔ W (mRO gShl (mA2 a b) E) Qe := Iff.rfl
@[simp ↓] theorem W_lt : W (mLt a b E) Qe ↔ W (mRO (gB2 fun i j => decide (i < j)) (mA2 a b) E) Qe := Iff.rfl
@[simp ↓] theorem W_gt : W (mGt a b E) Qe ↔ W (mRO (gB2 fun i j => decide (j < i)) (mA2 a b) E) Qe := Iff.rfl
@[simp ↓] theorem W_ge : W (mGe a b E) Qe ↔ W (mRO (gB2 fun i j => decide (j ≤ i)) (mA2 a b) E) Qe := Iff.rfl
@[simp ↓] theorem W_eq : W (mEq a b E) Qe ↔ W (mRO gEq (mA2 a b) E) Qe := Iff.rfl
@[simp ↓] theorem W_ne : W (mNe a b E) Qe ↔ W (mRO gNe (mA2 a b) E) Qe := Iff.rfl
@[simp ↓] theorem W_isN : W (mIsN a E) Qe ↔ W (mRO gIsN (mA1 a) E) Qe := Iff.rfl
@[simp ↓] theorem W_ixd : W (mIxd a b E) Qe ↔ W (mOp gIxd (mA2 a b) E) Qe := Iff.rfl
@[simp ↓] theorem W_in : W (mIn a b E) Qe ↔ W (mOp (gInA false) (mA2 a b) E) Qe := Iff.rfl
@[simp ↓] theorem W_notIn : W (mNotIn a b E) Qe ↔ W (mOp (gInA true) (mA2 a b) E) Qe := Iff.rfl
@[simp ↓] theorem W_sl : W (mSl a b c E) Qe ↔ W (mOp gSl (mAc a (mAc b (mAc c mA0))) E) Qe := Iff.rfl
@[simp ↓] theorem W_get2 : W (mGet2 a b c E) Qe ↔ W (mOp gGet2 (mAc (mChk isDct a) (mAc b (mAc c mA0))) E) Qe := Iff.rfl
@[simp ↓] theorem W_srt : W (mSrt a E) Qe ↔ W (mOp gSrt1 (mAc a mA0) E) Qe := Iff.rfl
@[simp ↓] theorem W_chk {P : D → Bool} : W (mChk P a E) Qe ↔ W (a E) fun p => W (rd p.2 p.1) fun d => P d = true ∧ Qe p := by unfold mChk; (repeat (first | exact Iff.rfl | (refine W_ext fun _ => ?_) | (refine W_bind.trans (W_ext fun _ => ?_)) | exact W_map | exact W_if1.trans Iff.rfl | (simp [W_ite, IfB]; done) | simp))
@[simp ↓] theorem W_int : W (mInt a E) Qe ↔ W (a E) fun p => W (rd p.2 p.1) fun d => (match d with | .int k => Qe (.val (.int k) 9, p.2) | _ => False) := by
  unfold mInt
  simp only [W_bind]
  refine W_ext fun p => ?_; refine W_bind.trans <| W_ext fun d => ?_
  cases d <;> simp
@[simp ↓] theorem W_lst : W (mLst fa E) Qe ↔ W (fa E) fun p => W (tkL p.2 p.1) fun q => q.1.length ≤ sizeLine ∧ Qe (.val (.lst (q.1.map (·.1))) (uni q.1), q.2) := by unfold mLst; (repeat (first | exact Iff.rfl | (refine W_ext fun _ => ?_) | (refine W_bind.trans (W_ext fun _ => ?_)) | exact W_map | exact W_if1.trans Iff.rfl | (simp [W_ite, IfB]; done) | simp))
@[simp ↓] theorem W_tup : W (mTup fa E) Qe ↔ W (fa E) fun p => W (tkL p.2 p.1) fun q => q.1.length ≤ sizeLine ∧ Qe (.val (.tup (q.1.map (·.1))) 0, q.2) := by unfold mTup; (repeat (first | exact Iff.rfl | (refine W_ext fun _ => ?_) | (refine W_bind.trans (W_ext fun _ => ?_)) | exact W_map | exact W_if1.trans Iff.rfl | (simp [W_ite, IfB]; done) | simp))
@[simp ↓] theorem W_dicK : W (mDicK E) Qe ↔ Qe (.val (.dK []) 9, E) := by unfold mDicK; (repeat (first | exact Iff.rfl | (refine W_ext fun _ => ?_) | (refine W_bind.trans (W_ext fun _ => ?_)) | exact W_map | exact W_if1.trans Iff.rfl | (simp [W_ite, IfB]; done) | simp))
@[simp ↓] theorem W_andV : W (mAndV a b E) Qe ↔ W (a E) fun p => W (rd p.2 p.1) fun d => W (tru d) fun k => IfB k (W (b p.2) Qe) (Qe p) := by unfold mAndV; simp only [W_bind]; (repeat (first | exact Iff.rfl | (refine W_ext fun _ => ?_) | (refine W_bind.trans (W_ext fun _ => ?_)) | exact W_map | exact W_if1.trans Iff.rfl | (simp [W_ite, IfB]; done) | simp)); try (repeat (first | exact Iff.rfl | (refine W_ext fun _ => ?_) | (refine W_bind.trans (W_ext fun _ => ?_)) | exact W_map | exact W_if1.trans Iff.rfl | (simp [W_ite, IfB]; done) | simp))
@[simp ↓] theorem W_b : W (mB a E) Qt ↔ W (a E) fun p => W (rd p.2 p.1) fun d => (match d with | .bl k => Qt (k, p.2) | _ => False) := by
  unfold mB
  simp only [W_bind]
  refine W_ext fun p => ?_; refine W_bind.trans <| W_ext fun d => ?_
  cases d <;> simp
@[simp ↓] theorem W_tr : W (mTr a E) Qt ↔ W (a E) fun p => W (rd p.2 p.1) fun d => W (tru d) fun k => Qt (k, p.2) := by unfold mTr; (repeat (first | exact Iff.rfl | (refine W_ext fun _ => ?_) | (refine W_bind.trans (W_ext fun _ => ?_)) | exact W_map | exact W_if1.trans Iff.rfl | (simp [W_ite, IfB]; done) | simp))
@[simp ↓] theorem W_andT : W (mAndT ft fu E) Qt ↔ W (ft E) fun p => IfB p.1 (W (fu p.2) Qt) (Qt (false, p.2)) := by unfold mAndT; simp only [W_bind]; (repeat (first | exact Iff.rfl | (refine W_ext fun _ => ?_) | (refine W_bind.trans (W_ext fun _ => ?_)) | exact W_map | exact W_if1.trans Iff.rfl | (simp [W_ite, IfB]; done) | simp)); try (repeat (first | exact Iff.rfl | (refine W_ext fun _ => ?_) | (refine W_bind.trans (W_ext fun _ => ?_)) | exact W_map | exact W_if1.trans Iff.rfl | (simp [W_ite, IfB]; done) | simp))
@[simp ↓] theorem W_orT : W (mOrT ft fu E) Qt ↔ W (ft E) fun p => IfB p.1 (Qt (true, p.2)) (W (fu p.2) Qt) := by unfold mOrT; simp only [W_bind]; (repeat (first | exact Iff.rfl | (refine W_ext fun _ => ?_) | (refine W_bind.trans (W_ext fun _ => ?_)) | exact W_map | exact W_if1.trans Iff.rfl | (simp [W_ite, IfB]; done) | simp)); try (repeat (first | exact Iff.rfl | (refine W_ext fun _ => ?_) | (refine W_bind.trans (W_ext fun _ => ?_)) | exact W_map | exact W_if1.trans Iff.rfl | (simp [W_ite, IfB]; done) | simp))
@[simp ↓] theorem W_notT : W (mNotT ft E) Qt ↔ W (ft E) fun p => Qt (!p.1, p.2) := by unfold mNotT; (repeat (first | exact Iff.rfl | (refine W_ext fun _ => ?_) | (refine W_bind.trans (W_ext fun _ => ?_)) | exact W_map | exact W_if1.trans Iff.rfl | (simp [W_ite, IfB]; done) | simp))
@[simp ↓] theorem W_yes : W (mYes E) Qt ↔ Qt (true, E) := by unfold mYes; (repeat (first | exact Iff.rfl | (refine W_ext fun _ => ?_) | (refine W_bind.trans (W_ext fun _ => ?_)) | exact W_map | exact W_if1.trans Iff.rfl | (simp [W_ite, IfB]; done) | simp))
@[simp ↓] theorem W_seq : W (mSeq s t E) Qs ↔ W (s E) fun p => (match p.1 with | .nx => W (t p.2) Qs | fl => Qs (fl, p.2)) := by
  unfold mSeq
  simp only [W_bind]
  refine W_ext fun p => ?_
  obtain ⟨fl, E1⟩ := p
  cases fl <;> simp
@[simp ↓] theorem W_nx : W (mNx E) Qs ↔ Qs (.nx, E) := by unfold mNx; (repeat (first | exact Iff.rfl | (refine W_ext fun _ => ?_) | (refine W_bind.trans (W_ext fun _ => ?_)) | exact W_map | exact W_if1.trans Iff.rfl | (simp [W_ite, IfB]; done) | simp))
@[simp ↓] theorem W_set : W (mSet i a E) Qs ↔ W (a E) fun p => W (tk p.2 p.1) fun q => i < q.2.2.length ∧ Qs (.nx, q.2.2.set i (some (q.1, q.2.1))) := by unfold mSet; (repeat (first | exact Iff.rfl | (refine W_ext fun _ => ?_) | (refine W_bind.trans (W_ext fun _ => ?_)) | exact W_map | exact W_if1.trans Iff.rfl | (simp [W_ite, IfB]; done) | simp))
@[simp ↓] theorem W_ret : W (mRet a E) Qs ↔ W (a E) fun p => W (mv p.2 p.1) fun q => Qs (.rt q.1 q.2.1, q.2.2) := by unfold mRet; (repeat (first | exact Iff.rfl | (refine W_ext fun _ => ?_) | (refine W_bind.trans (W_ext fun _ => ?_)) | exact W_map | exact W_if1.trans Iff.rfl | (simp [W_ite, IfB]; done) | simp))
@[simp ↓] theorem W_ex : W (mEx a E) Qs ↔ W (a E) fun p => Qs (.nx, p.2) := by unfold mEx; (repeat (first | exact Iff.rfl | (refine W_ext fun _ => ?_) | (refine W_bind.trans (W_ext fun _ => ?_)) | exact W_map | exact W_if1.trans Iff.rfl | (simp [W_ite, IfB]; done) | simp))
@[simp ↓] theorem W_ifS : W (mIfS ft s t E) Qs ↔ W (ft E) fun p => IfB p.1 (W (s p.2) Qs) (W (t p.2) Qs) := by unfold mIfS; simp only [W_bind]; (repeat (first | exact Iff.rfl | (refine W_ext fun _ => ?_) | (refine W_bind.trans (W_ext fun _ => ?_)) | exact W_map | exact W_if1.trans Iff.rfl | (simp [W_ite, IfB]; done) | simp)); try (repeat (first | exact Iff.rfl | (refine W_ext fun _ => ?_) | (refine W_bind.trans (W_ext fun _ => ?_)) | exact W_map | exact W_if1.trans Iff.rfl | (simp [W_ite, IfB]; done) | simp))
@[simp ↓] theorem W_asg : W (mAsg g a E) Qs ↔ W (a E) fun p => W (tk p.2 p.1) fun q => W (g q.1 q.2.2) fun E' => Qs (.nx, E') := by unfold mAsg; (repeat (first | exact Iff.rfl | (refine W_ext fun _ => ?_) | (refine W_bind.trans (W_ext fun _ => ?_)) | exact W_map | exact W_if1.trans Iff.rfl | (simp [W_ite, IfB]; done) | simp))
@[simp ↓] theorem W_tgTl {ds : List D} : W (tgT n gs (.lst ds) E) Qg ↔ ds.length = n ∧ W (gs ds E) Qg := by simp [tgT]; try (repeat (first | exact Iff.rfl | (refine W_ext fun _ => ?_) | (refine W_bind.trans (W_ext fun _ => ?_)) | exact W_map | exact W_if1.trans Iff.rfl | (simp [W_ite, IfB]; done) | simp))
@[simp ↓] theorem W_tgV : W (tgV i d E) Qg ↔ i < E.length ∧ Qg (E.set i (some (d, 0))) := by unfold tgV; (repeat (first | exact Iff.rfl | (refine W_ext fun _ => ?_) | (refine W_bind.trans (W_ext fun _ => ?_)) | exact W_map | exact W_if1.trans Iff.rfl | (simp [W_ite, IfB]; done) | simp))
@[simp ↓] theorem W_tgN : W (tgN [] E) Qg ↔ Qg E := by simp [tgN]; try (repeat (first | exact Iff.rfl | (refine W_ext fun _ => ?_) | (refine W_bind.trans (W_ext fun _ => ?_)) | exact W_map | exact W_if1.trans Iff.rfl | (simp [W_ite, IfB]; done) | simp))
@[simp ↓] theorem W_tgC {ds : List D} : W (tgC g gs (d :: ds) E) Qg ↔ W (g d E) fun E1 => W (gs ds E1) Qg := by simp [tgC]; try (repeat (first | exact Iff.rfl | (refine W_ext fun _ => ?_) | (refine W_bind.trans (W_ext fun _ => ?_)) | exact W_map | exact W_if1.trans Iff.rfl | (simp [W_ite, IfB]; done) | simp))
@[simp ↓] theorem W_tgT {ds : List D} : W (tgT n gs (.tup ds) E) Qg ↔ ds.length = n ∧ W (gs ds E) Qg := by simp [tgT]; try (repeat (first | exact Iff.rfl | (refine W_ext fun _ => ?_) | (refine W_bind.trans (W_ext fun _ => ?_)) | exact W_map | exact W_if1.trans Iff.rfl | (simp [W_ite, IfB]; done) | simp))
@[simp ↓] theorem W_for : W (mFor it g s E) Qs ↔ W (it E) fun p => W (forM g s p.1 p.2) Qs := by unfold mFor; (repeat (first | exact Iff.rfl | (refine W_ext fun _ => ?_) | (refine W_bind.trans (W_ext fun _ => ?_)) | exact W_map | exact W_if1.trans Iff.rfl | (simp [W_ite, IfB]; done) | simp))
@[simp ↓] theorem W_forM_nil : W (forM g s [] E) Qs ↔ Qs (.nx, E) := by simp [forM]; try (repeat (first | exact Iff.rfl | (refine W_ext fun _ => ?_) | (refine W_bind.trans (W_ext fun _ => ?_)) | exact W_map | exact W_if1.trans Iff.rfl | (simp [W_ite, IfB]; done) | simp))
theorem W_forM_cons {ds : List D} : W (forM g s (d :: ds) E) Qs ↔ W (g d E) fun E1 => W (s E1) fun q => (match q.1 with | .nx => W (forM g s ds q.2) Qs | .ct => W (forM g s ds q.2) Qs | .bk => Qs (.nx, q.2) | .rt d k => Qs (.rt d k, q.2)) := by
  simp only [forM, W_bind]
  refine W_ext fun E1 => ?_; refine W_bind.trans <| W_ext fun q => ?_
  obtain ⟨fl, E2⟩ := q
  cases fl <;> simp
@[simp ↓] theorem W_sq : W (mSq a E) Qi ↔ W (a E) fun p => W (tk p.2 p.1) fun q => W (seqD q.1) fun ds => Qi (ds, q.2.2) := by unfold mSq; (repeat (first | exact Iff.rfl | (refine W_ext fun _ => ?_) | (refine W_bind.trans (W_ext fun _ => ?_)) | exact W_map | exact W_if1.trans Iff.rfl | (simp [W_ite, IfB]; done) | simp))
@[simp ↓] theorem W_rg1 : W (mRg1 a E) Qi ↔ W (a E) fun p => W (rd p.2 p.1) fun d => (match d with | .int j => rgOk j ∧ Qi (rng 0 j.toNat, p.2) | _ => False) := by
  unfold mRg1
  simp only [W_bind]
  refine W_ext fun p => ?_; refine W_bind.trans <| W_ext fun d => ?_
  cases d <;> simp
@[simp ↓] theorem W_lstAt {Q : List D × Nat → Prop} : W (lstAt E i) Q ↔ W (eg E i) fun p => (match p with | (.lst ds, n + 1) => Q (ds, n + 1) | _ => False) := by
  unfold lstAt
  cases h : eg E i with
  | none => simp
  | some p =>
    obtain ⟨d, n⟩ := p
    cases d <;> cases n <;> simp
@[simp ↓] theorem W_app : W (mApp i a E) Qe ↔ W (lstAt E i) fun _ => W (a E) fun p => W (tk p.2 p.1) fun q => W (lstAt q.2.2 i) fun l => l.1.length < sizeLine ∧ Qe (.val .non 9, q.2.2.set i (some (.lst (l.1 ++ [q.1]), upl l.2 (.lst l.1) q.1 q.2.1))) := by unfold mApp; (repeat (first | exact Iff.rfl | (refine W_ext fun _ => ?_) | (refine W_bind.trans (W_ext fun _ => ?_)) | exact W_map | exact W_if1.trans Iff.rfl | (simp [W_ite, IfB]; done) | simp))
@[simp ↓] theorem W_pop : W (mPop i E) Qe ↔ W (lstAt E i) fun l => W (l.1[l.1.length - 1]?) fun d => Qe (.val d (l.2 - 1), E.set i (some (.lst l.1.dropLast, l.2))) := by unfold mPop; (repeat (first | exact Iff.rfl | (refine W_ext fun _ => ?_) | (refine W_bind.trans (W_ext fun _ => ?_)) | exact W_map | exact W_if1.trans Iff.rfl | (simp [W_ite, IfB]; done) | simp))
@[simp ↓] theorem W_rev : W (mRev i E) Qe ↔ W (lstAt E i) fun l => Qe (.val .non 9, E.set i (some (.lst l.1.reverse, l.2))) := by unfold mRev; (repeat (first | exact Iff.rfl | (refine W_ext fun _ => ?_) | (refine W_bind.trans (W_ext fun _ => ?_)) | exact W_map | exact W_if1.trans Iff.rfl | (simp [W_ite, IfB]; done) | simp))
@[simp ↓] theorem W_put : W (mPut i a b E) Qs ↔ W (b E) fun pv => (eg pv.2 i).isSome = true ∧ W (a pv.2) fun pk => W (rd pk.2 pk.1) fun k => W (tk pk.2 pv.1) fun q => W (putAt q.2.2 i k q.1 q.2.1) fun E' => Qs (.nx, E') := by
  unfold mPut
  refine W_bind.trans (W_ext fun pv => W_if1.trans (and_congr_right fun _ => ?_))
  exact W_bind.trans (W_ext fun pk => W_bind.trans (W_ext fun k => W_bind.trans (W_ext fun q => W_map)))
@[simp ↓] theorem W_call0 : W (mCall none M fa E) Qe ↔ W (fa E) fun p => W (rdL p.2 p.1) fun ds => W (M ds) fun r => IfB (imm r.1) (Qe (.val r.1 9, p.2)) (Qe (.val r.1 r.2.1, dem p.2 p.1)) := by
  unfold mCall
  simp only [W_bind, W_iteB, W_some]
  try (repeat (first | exact Iff.rfl | (refine W_ext fun _ => ?_) | (refine W_bind.trans (W_ext fun _ => ?_)) | exact W_map | exact W_if1.trans Iff.rfl | (simp [W_ite, IfB]; done) | simp))
@[simp ↓] theorem W_call1 : W (mCall (some m) M fa E) Qe ↔ W (fa E) fun p => W (rdL p.2 p.1) fun ds => W (M ds) fun r => W (p.1[m]?) fun o => (match o with
    | .slot j => W (flAt p.2 j) fun n => (p.1.eraseIdx m).all (fun o => !isSlot j o) = true ∧ IfB (imm r.1) (Qe (.val r.1 9, p.2.set j (some (r.2.2, n)))) (Qe (.val r.1 r.2.1, (dem p.2 (p.1.eraseIdx m)).set j (some (r.2.2, n))))
    | _ => False) := by
  unfold mCall
  simp only [W_bind]
  refine W_ext fun p => ?_; refine W_bind.trans <| W_ext fun ds => ?_; refine W_bind.trans <| W_ext fun r => ?_
  cases h : p.1[m]? with
  | none => simp
  | some o =>
    cases o with
    | slot j =>
      rw [W_some]
      refine W_bind.trans (W_ext fun n => W_if1.trans (and_congr_right fun _ => ?_))
      cases imm r.1 <;> simp
    | val d n => simp
@[simp ↓] theorem W_flAt {Q : Nat → Prop} : W (flAt E i) Q ↔ W (eg E i) fun p => (match p with | (d, n + 1) => flat d = true ∧ Q (n + 1) | _ => False) := by
  unfold flAt
  cases h : eg E i with
  | none => simp
  | some p =>
    obtain ⟨d, n⟩ := p
    cases n <;> simp
@[simp] theorem dem_nil : dem E [] = E := rfl
@[simp] theorem dem_val : dem E (.val d n :: os) = dem E os := rfl
@[simp] theorem dem_slot : dem E (.slot i :: os) = dem (dem1 E (.slot i)) os := rfl
@[simp] theorem isSlot_v : isSlot i (.val d n) = false := rfl
@[simp] theorem isSlot_s {j : Nat} : isSlot j (.slot i) = (i == j) := rfl
@[simp ↓] theorem W_mDef {io : Option Nat} {ds : List D} {Q : D × Nat × D → Prop} : W (mDef io n s ds) Q ↔ W (s (ent0 io n ds)) fun p => (match p.1 with
    | .nx => W (outAt io p.2) fun o => Q (.non, 9, o)
    | .rt d k => W (outAt io p.2) fun o => Q (d, k, o)
    | _ => False) := by
  unfold mDef
  simp only [W_bind]
  refine W_ext fun p => ?_
  obtain ⟨fl, E2⟩ := p
  cases fl <;> simp
@[simp ↓] theorem W_out0 {Q : D → Prop} : W (outAt none E) Q ↔ Q .non := by simp [outAt]; try (repeat (first | exact Iff.rfl | (refine W_ext fun _ => ?_) | (refine W_bind.trans (W_ext fun _ => ?_)) | exact W_map | exact W_if1.trans Iff.rfl | (simp [W_ite, IfB]; done) | simp))
@[simp ↓] theorem W_out1 {Q : D → Prop} : W (outAt (some i) E) Q ↔ W (eg E i) fun p => (match p with | (d, n + 1) => flat d = true ∧ Q d | _ => False) := by
  unfold outAt
  simp only
  cases h : eg E i with
  | none => simp
  | some p =>
    obtain ⟨d, n⟩ := p
    cases n <;> simp
@[simp] theorem ent0_0 : ent0 none n [] = List.replicate n none := by simp [ent0, ent]
@[simp] theorem ent_0 {io : Option Nat} : ent io i [] = [] := rfl
@[simp] theorem ent_c {io : Option Nat} {ds : List D} : ent io i (d :: ds) = some (d, if io = some i then 1 else 0) :: ent io (i + 1) ds := rfl
theorem ent0_def {io : Option Nat} {ds : List D} : ent0 io n ds = ent io 0 ds ++ List.replicate (n - ds.length) none := rfl
@[simp] theorem rep_s {α : Type} {x : α} : List.replicate (n + 1) x = x :: List.replicate n x := rfl
end
end Zk
namespace Zk
open PySem PySem.Spec PyProof.Rows L2
@[simp] theorem gAdd_int (i j : Int) : gAdd [.int i, .int j] = some (.int (i + j), 9) := by simp [gAdd]
@[simp] theorem gMul_int (i j : Int) : gMul [.int i, .int j] = if i.natAbs < big ∧ j.natAbs < big then some (.int (i * j), 9) else none := by simp [gMul]
@[simp] theorem gI2_int {c : Int → Int → Prop} [∀ i j, Decidable (c i j)] {f : Int → Int → Int} (i j : Int) : gI2 c f [.int i, .int j] = if c i j then some (.int (f i j)) else none := by simp [gI2]
@[simp] theorem gB2_int {f : Int → Int → Bool} (i j : Int) : gB2 f [.int i, .int j] = some (.bl (f i j)) := by simp [gB2]
@[simp] theorem gEq_int (i j : Int) : gEq [.int i, .int j] = some (.bl (decide (i = j))) := by simp [gEq, dat]
@[simp] theorem gNe_int (i j : Int) : gNe [.int i, .int j] = some (.bl (!decide (i = j))) := by simp [gNe, dat]
@[simp] theorem gLen_lst (ds : List D) : gLen [.lst ds] = some (.int ds.length, 9) := by simp [gLen]
@[simp] theorem gLen_tup (ds : List D) : gLen [.tup ds] = some (.int ds.length, 9) := by simp [gLen]
@[simp] theorem gLen_scr (ds : List Int) : gLen [.scr ds] = some (.int ds.length, 9) := by simp [gLen]
@[simp] theorem gInt_int (i : Int) : gInt [.int i] = some (.int i, 9) := by simp [gInt]
@[simp] theorem gTuple_lst (ds : List D) : gTuple [.lst ds] = some (.tup ds, 0) := by simp [gTuple]
@[simp] theorem gTuple_tup (ds : List D) : gTuple [.tup ds] = some (.tup ds, 0) := by simp [gTuple]
@[simp] theorem gList_lst (ds : List D) : gList [.lst ds] = some (.lst ds, lev ds) := by simp [gList]
@[simp] theorem gList_tup (ds : List D) : gList [.tup ds] = some (.lst ds, lev ds) := by simp [gList]
@[simp] theorem tru_bl (b : Bool) : tru (.bl b) = some b := by simp [tru]
@[simp] theorem tru_int (i : Int) : tru (.int i) = some (i != 0) := by simp [tru]
@[simp] theorem flat_lst (xs : List D) : flat (.lst xs) = imms xs := rfl
@[simp] theorem imms_ints (xs : List Int) : imms (xs.map D.int) = true := imms_map _ (fun _ => by simp) xs
@[simp] theorem imms_app (a b : List D) : imms (a ++ b) = (imms a && imms b) := imms_append a b
section
variable {g : Fg} {body s : Fs} {c : Ft} {f : Fe} {it : Fi} {is : List Nat} {E E0 : Ev} {its : List D} {Qs : Fl × Ev → Prop} {Qe : Op × Ev → Prop}
/-- a loop by an invariant -/
theorem W_forI (I : Nat → Ev → Prop) (h0 : I 0 E) (st : ∀ k d E, its[k]? = some d → I k E → W (g d E) fun E1 => W (body E1) fun q => (match q.1 with
    | .nx => I (k + 1) q.2 | .ct => I (k + 1) q.2 | .bk => Qs (.nx, q.2) | .rt d n => Qs (.rt d n, q.2))) (fin : ∀ E, I its.length E → Qs (.nx, E)) : W (forM g body its E) Qs := by
  have go : ∀ (r : List D) (k : Nat) (E : Ev), its.drop k = r → k ≤ its.length → I k E → W (forM g body r E) Qs := by
    intro r
    induction r with
    | nil =>
      intro k E e hk i
      rw [W_forM_nil]
      have : k = its.length := by
        have := List.drop_eq_nil_iff.mp e
        omega
      exact fin E (this ▸ i)
    | cons d r ih =>
      intro k E e hk i
      have hd : its[k]? = some d := by
        have := congrArg List.head? e
        rw [List.head?_drop] at this
        simpa using this
      have hr : its.drop (k + 1) = r := by
        have := congrArg List.tail e
        rw [List.tail_drop] at this
        simpa using this
      have hk2 : k + 1 ≤ its.length := by
        have := (List.getElem?_eq_some_iff.mp hd).1
        omega
      rw [W_forM_cons]
      refine (st k d E hd i).mono fun E1 h1 => h1.mono fun q h2 => ?_
      obtain ⟨fl, E2⟩ := q
      cases fl with
      | nx => exact ih (k + 1) E2 hr hk2 h2
      | ct => exact ih (k + 1) E2 hr hk2 h2
      | bk => exact h2
      | rt d n => exact h2
  exact go its 0 E rfl (Nat.zero_le _) h0
/-- .. over what stands for xs -/
theorem W_forX {α : Type} {xs : List α} {ι : α → D} (I : List α → Ev → Prop) (h0 : I [] E) (st : ∀ a x b E, xs = a ++ x :: b → I a E → W (g (ι x) E) fun E1 => W (body E1) fun q => (match q.1 with
    | .nx => I (a ++ [x]) q.2 | .ct => I (a ++ [x]) q.2 | .bk => Qs (.nx, q.2) | .rt d n => Qs (.rt d n, q.2))) (fin : ∀ E, I xs E → Qs (.nx, E)) : W (forM g body (xs.map ι) E) Qs := by
  refine W_forI (fun k E => I (xs.take k) E) (by simpa using h0) (fun k d E hd i => ?_) fun E i => fin E (by simpa using i)
  rw [List.getElem?_map] at hd
  cases hx : xs[k]? with
  | none => rw [hx] at hd; cases hd
  | some x =>
    rw [hx] at hd
    cases hd
    have hk := (List.getElem?_eq_some_iff.mp hx).1
    have ex := (List.getElem?_eq_some_iff.mp hx).2
    have e : xs = xs.take k ++ x :: xs.drop (k + 1) := by
      conv => lhs; rw [← List.take_append_drop k xs]
      rw [List.drop_eq_getElem_cons hk, ex]
    have e2 : xs.take (k + 1) = xs.take k ++ [x] := by rw [List.take_add_one, hx]; rfl
    rw [e2]
    exact st _ x _ E e i
@[simp] theorem rng_get (lo : Int) (n k : Nat) : (rng lo n)[k]? = if k < n then some (.int (lo + k)) else none := by
  unfold rng
  rw [List.getElem?_map]
  by_cases h : k < n
  · rw [List.getElem?_range h]; simp [h]
  · rw [List.getElem?_eq_none (by simpa using h)]; simp [h]
/-- .. over a range -/
theorem W_forR {lo : Int} {n : Nat} (I : Nat → Ev → Prop) (h0 : I 0 E) (st : ∀ k E, k < n → I k E → W (g (.int (lo + k)) E) fun E1 => W (body E1) fun q => (match q.1 with
    | .nx => I (k + 1) q.2 | .ct => I (k + 1) q.2 | .bk => Qs (.nx, q.2) | .rt d n => Qs (.rt d n, q.2))) (fin : ∀ E, I n E → Qs (.nx, E)) : W (forM g body (rng lo n) E) Qs :=
  W_forI I h0 (fun k d E hd i => by
    rw [rng_get] at hd
    split at hd
    · rename_i h
      cases hd
      exact st k E h i
    · cases hd) fun E i => fin E (by simpa using i)
/-- a comprehension by an invariant -/
theorem W_lcI {E : Ev} {Q : List (D × Nat) × Ev → Prop} (I : Nat → Ev → List (D × Nat) → Prop) (hl : its.length < sizeLine) (h0 : I 0 E []) (st : ∀ k d E acc, its[k]? = some d → acc.length ≤ k → I k E acc → W (g d E) fun E1 => W (c E1) fun q =>
      IfB q.1 (W (f q.2) fun r => W (tk r.2 r.1) fun t => I (k + 1) (wipeE t.2.2 is) (acc ++ [(t.1, t.2.1)])) (I (k + 1) (wipeE q.2 is) acc)) (fin : ∀ E acc, acc.length ≤ its.length → I its.length E acc → Q (acc, E)) : W (lcM g c f is its E []) Q := by
  have go : ∀ (r : List D) (k : Nat) (E : Ev) (acc : List (D × Nat)), its.drop k = r → k ≤ its.length → acc.length ≤ k → I k E acc → W (lcM g c f is r E acc) Q := by
    intro r
    induction r with
    | nil =>
      intro k E acc e hk ha i
      have : k = its.length := by
        have := List.drop_eq_nil_iff.mp e
        omega
      simp only [lcM, W_some]
      exact fin E acc (by omega) (this ▸ i)
    | cons d r ih =>
      intro k E acc e hk ha i
      have hd : its[k]? = some d := by
        have := congrArg List.head? e
        rw [List.head?_drop] at this
        simpa using this
      have hr : its.drop (k + 1) = r := by
        have := congrArg List.tail e
        rw [List.tail_drop] at this
        simpa using this
      have hk2 : k + 1 ≤ its.length := by
        have := (List.getElem?_eq_some_iff.mp hd).1
        omega
      unfold lcM
      refine W_bind.mpr ((st k d E acc hd ha i).mono fun E1 h1 => W_bind.mpr (h1.mono fun q h2 => W_iteB.mpr ?_))
      obtain ⟨b, E2⟩ := q
      cases b with
      | false =>
        rw [IfB_f] at h2 ⊢
        exact ih (k + 1) _ acc hr hk2 (by omega) h2
      | true =>
        rw [IfB_t] at h2 ⊢
        refine W_bind.mpr (h2.mono fun r1 h3 => W_bind.mpr (h3.mono fun t h4 => W_if1.mpr ?_))
        exact ⟨by omega, ih (k + 1) _ _ hr hk2 (by simp; omega) h4⟩
  exact go its 0 E [] rfl (Nat.zero_le _) (by simp) h0
@[simp ↓] theorem W_lc0 : W (mLc it is g c f E) Qe ↔ W (it E) fun p => W (lcM g c f is p.1 (wipeE p.2 is) []) fun q => Qe (.val (.lst (q.1.map (·.1))) (uni q.1), backE p.2 q.2 is) := by unfold mLc; exact W_bind.trans (W_ext fun p => W_map)
/-- a comprehension that changes nothing, of unchangeable things -/
theorem W_lcX {α : Type} {xs : List α} {ι : α → D} {E0 : Ev} {Q : List (D × Nat) × Ev → Prop} (p : α → Bool) (ρ : α → D) (hρ : ∀ x, imm (ρ x) = true) (hl : xs.length < sizeLine)
    (st : ∀ x ∈ xs, W (g (ι x) E0) fun E1 => W (c E1) fun q => IfB q.1 (p x = true ∧ W (f q.2) fun r => W (tk r.2 r.1) fun t => t.1 = ρ x ∧ wipeE t.2.2 is = E0) (p x = false ∧ wipeE q.2 is = E0))
    (fin : ∀ acc : List (D × Nat), acc.map (·.1) = (xs.filter p).map ρ → uni acc = 9 → Q (acc, E0)) : W (lcM g c f is (xs.map ι) E0 []) Q := by
  refine W_lcI (I := fun k E acc => E = E0 ∧ acc.map (·.1) = ((xs.take k).filter p).map ρ) (by simpa using hl) (by simp) (fun k d E acc hd ha i => ?_) fun E acc ha i => ?_
  · obtain ⟨rfl, i⟩ := i
    rw [List.getElem?_map] at hd
    cases hx : xs[k]? with
    | none => rw [hx] at hd; cases hd
    | some x =>
      rw [hx] at hd
      cases hd
      refine (st x (List.mem_of_getElem? hx)).mono fun E1 h1 => h1.mono fun q h2 => ?_
      obtain ⟨b, E2⟩ := q
      cases b with
      | false =>
        rw [IfB_f] at h2 ⊢
        refine ⟨h2.2, ?_⟩
        rw [List.take_add_one, hx, List.filter_append, i]
        simp [h2.1]
      | true =>
        rw [IfB_t] at h2 ⊢
        refine h2.2.mono fun r1 h3 => h3.mono fun t h4 => ⟨h4.2, ?_⟩
        rw [List.take_add_one, hx, List.filter_append, List.map_append, i]
        simp [h2.1, h4.1]
  · obtain ⟨rfl, i⟩ := i
    simp only [List.length_map, List.take_length] at i
    refine fin acc i ?_
    unfold uni
    rw [if_pos]
    rw [i]
    exact imms_map _ hρ _
@[simp] theorem wipeE_nil : wipeE E [] = E := rfl
@[simp] theorem wipeE_c {i : Nat} : wipeE E (i :: is) = wipeE (E.set i none) is := rfl
@[simp] theorem backE_nil : backE E E0 [] = E0 := rfl
@[simp] theorem backE_c {i : Nat} : backE E E0 (i :: is) = backE E (E0.set i (eg E i)) is := rfl
end
theorem big0 {i : Int} (h : i.natAbs < 2 ^ 64) : i.natAbs < big := big_of h (by decide)
theorem sizeL : sizeLine = 16777216 := sizeLine_eq
theorem ixN_ok {n : Nat} {i : Int} (h0 : 0 ≤ i) (h : i < n) : ixN n i = some i.toNat := by unfold ixN; rw [if_pos h0, if_pos h]
@[simp] theorem seqD_lst (ds : List D) : seqD (.lst ds) = some ds := rfl
@[simp] theorem seqD_tup (ds : List D) : seqD (.tup ds) = some ds := rfl
@[simp] theorem seqD_con (ds : List D) : seqD (.con ds) = some ds := rfl
@[simp] theorem seqD_scr (ns : List Int) : seqD (.scr ns) = some (ns.map D.int) := rfl
@[simp] theorem part_non : part .non = some none := rfl
@[simp] theorem part_int (i : Int) : part (.int i) = some (some i) := rfl
@[simp] theorem gSl_lst (ds : List D) (l h : D) : gSl [.lst ds, l, h] = (part l).bind fun l => (part h).map fun h => (.lst (cutD ds l h), lev (cutD ds l h)) := by simp [gSl]
@[simp] theorem gSl_scr (ds : List Int) (l h : D) : gSl [.scr ds, l, h] = (part l).bind fun l => (part h).map fun h => (.lst (cutD (ds.map D.int) l h), lev (cutD (ds.map D.int) l h)) := by simp [gSl]
@[simp] theorem gSl_tup (ds : List D) (l h : D) : gSl [.tup ds, l, h] = (part l).bind fun l => (part h).map fun h => (.tup (cutD ds l h), 0) := by simp [gSl]
theorem cut_to (xs : List D) (k : Nat) : cutD xs none (some k) = xs.take k := by
  unfold cutD
  rw [HT.sIx_none, show HT.sIx xs.length xs.length (some (k : Int)) = min k xs.length from HT.sIx_nat xs.length xs.length k]
  simp
theorem W_seqJ {s t : Fs} {E : Ev} {Q : Fl × Ev → Prop} (J : Ev → Prop) (h : W (s E) fun p => p.1 = .nx ∧ J p.2) (k : ∀ E1, J E1 → W (t E1) Q) : W (mSeq s t E) Q := by
  rw [W_seq]
  refine h.mono fun p hp => ?_
  obtain ⟨fl, E1⟩ := p
  obtain ⟨rfl, j⟩ := hp
  exact k E1 j
def B72 : Int := 2 ^ 7200
theorem B72_pos : 0 < B72 := by unfold B72; exact Int.pow_pos (by decide)
theorem B72_big {i : Int} (h0 : 0 ≤ i) (h : i < B72 * 100000000000) : i.natAbs < big := by
  refine big_of (k := 7300) ?_ (by decide)
  have e : (B72 * 100000000000 : Int) ≤ 2 ^ 7300 := by
    unfold B72
    have : (2 : Int) ^ 7300 = 2 ^ 7200 * 2 ^ 100 := by rw [← Int.pow_add]
    rw [this]
    exact Int.mul_le_mul_of_nonneg_left (by decide) (Int.le_of_lt (Int.pow_pos (by decide)))
  have e3 : i < ((2 ^ 7300 : Nat) : Int) := by
    rw [Int.natCast_pow]
    exact Int.lt_of_lt_of_le h e
  generalize 2 ^ 7300 = c at e3 ⊢
  omega
@[simp] theorem one_big : 1 < big := by
  have := big0 (i := 1) (by decide)
  simpa using this
@[simp] theorem lev_ints' (ns : List Int) : lev (ns.map D.int) = 9 := lev_ints ns
@[simp] theorem uni_nil : uni [] = 9 := by simp [uni]
@[simp] theorem gIxd_lst (ds : List D) (i : D) : gIxd [.lst ds, i] = gIx [.lst ds, i] := by simp [gIxd]
@[simp] theorem gIxd_tup (ds : List D) (i : D) : gIxd [.tup ds, i] = gIx [.tup ds, i] := by simp [gIxd]
@[simp] theorem gIx_lst (ds : List D) (i : Int) : gIx [.lst ds, .int i] = (atI ds i).map fun d => (d, 0) := by simp [gIx]
@[simp] theorem gIx_tup (ds : List D) (i : Int) : gIx [.tup ds, .int i] = (atI ds i).map fun d => (d, 0) := by simp [gIx]
@[simp] theorem atI_map' {α β : Type} (f : α → β) (xs : List α) (i : Int) : atI (xs.map f) i = (atI xs i).map f := atI_map f xs i
theorem atI_ok {α : Type} {xs : List α} {i : Int} (h0 : 0 ≤ i) (h : i < xs.length) : ∃ x, atI xs i = some x ∧ x ∈ xs ∧ xs[i.toNat]? = some x ∧ ixN xs.length i = some i.toNat := by
  have e := ixN_ok h0 h
  have hl : i.toNat < xs.length := by omega
  refine ⟨xs[i.toNat], ?_, List.getElem_mem _, List.getElem?_eq_getElem hl, e⟩
  unfold atI
  rw [e, Option.bind_some, List.getElem?_eq_getElem hl]
theorem divOk_of {i j : Int} (h : 0 < j) (h2 : j < 2 ^ 64) : divOk i j := ⟨h, Int.lt_of_lt_of_le h2 (by
  have : (2 : Int) ^ 8000 = 2 ^ 64 * 2 ^ 7936 := by rw [← Int.pow_add]
  rw [this]
  have h1 : (1 : Int) ≤ 2 ^ 7936 := Int.pow_pos (by decide)
  have := Int.mul_le_mul_of_nonneg_left h1 (by decide : (0 : Int) ≤ 2 ^ 64)
  rwa [Int.mul_one] at this)⟩
@[simp] theorem divOk_2 {i : Int} : divOk i 2 := divOk_of (by decide) (by decide)
@[simp] theorem divOk_1000 {i : Int} : divOk i 1000 := divOk_of (by decide) (by decide)
@[simp] theorem szl {n : Nat} (h : n ≤ 16777216) : n ≤ sizeLine := by rw [sizeL]; exact h
@[simp] theorem szt {n : Nat} (h : n < 16777216) : n < sizeLine := by rw [sizeL]; exact h
@[simp] theorem nb {n : Nat} (h : n < 2 ^ 64) : n < big := big_of h (by decide)
@[simp] theorem upl_int {n m : Nat} {d : D} {i : Int} : upl n d (.int i) m = n := by simp [upl]
@[simp] theorem upl_bl {n m : Nat} {d : D} {i : Bool} : upl n d (.bl i) m = n := by simp [upl]
theorem upl_imm {n m : Nat} {d e : D} (h : imm e = true) : upl n d e m = n := by simp [upl, h]
@[simp] theorem updl_int {κ : Type} {n : Nat} {kds : List (κ × D)} {i : Int} : updl n kds (.int i) = if imms (kds.map (·.2)) = true then n else 1 := by simp [updl]
def putOf (p : D × Nat) (k dv : D) (nv : Nat) : Option (D × Nat) := match p with
  | (.lst ds, n + 1) => match k with
    | .int i => (ixN ds.length i).map fun j => (.lst (ds.set j dv), upl (n + 1) (.lst ds) dv nv)
    | _ => none
  | (.dK kds, n + 1) => (keyOf k).bind fun k => if kds.length < sizeLine then some (.dK (putD kds k dv), updl (n + 1) kds dv) else none
  | (.dT kds, n + 1) => match k with
    | .tup ks => (keysOf ks).bind fun k => if kds.length < sizeLine then some (.dT (putD kds k dv), updl (n + 1) kds dv) else none
    | _ => none
  | _ => none
theorem putAt_of {E : Ev} {x : Nat} {k dv : D} {nv : Nat} : putAt E x k dv nv = (eg E x).bind fun p => (putOf p k dv nv).map fun r => E.set x (some r) := by
  unfold putAt putOf
  cases eg E x with
  | none => rfl
  | some p =>
    obtain ⟨d, n⟩ := p
    cases n with
    | zero => cases d <;> rfl
    | succ n =>
      cases d with
      | lst ds =>
        cases k with
        | int i => simp [Option.map_map, Function.comp_def]
        | _ => rfl
      | dK ds =>
        simp only [Option.bind_some]
        cases keyOf k with
        | none => rfl
        | some k' =>
          simp only [Option.bind_some]
          split <;> rfl
      | dT ds =>
        cases k with
        | tup ks =>
          simp only [Option.bind_some]
          cases keysOf ks with
          | none => rfl
          | some k' =>
            simp only [Option.bind_some]
            split <;> rfl
        | _ => rfl
      | _ => rfl
@[simp ↓] theorem W_putAt {E : Ev} {x : Nat} {k dv : D} {nv : Nat} {Q : Ev → Prop} : W (putAt E x k dv nv) Q ↔ W (eg E x) fun p => W (putOf p k dv nv) fun r => Q (E.set x (some r)) := by
  rw [putAt_of]
  exact W_bind.trans (W_ext fun p => W_map)
@[simp] theorem putOf_lst {ds : List D} {n nv : Nat} {i : Int} {dv : D} : putOf (.lst ds, n + 1) (.int i) dv nv = (ixN ds.length i).map fun j => (.lst (ds.set j dv), upl (n + 1) (.lst ds) dv nv) := rfl
end Zk
namespace Zk
open PySem PySem.Spec PyProof.Rows L2
open Sem (wp)
open AutoSeq1 (wpAny_loadPart')
section
variable {prog : Program} {w : World} {A : Around} {E : Value → Shared → Prop} {s : Shared}
end
section
variable {K : PySem.W.Frag} {Z Z' : Addr → Prop} {H H' : Hp} {σ : L2.St} {E E' : Ev} {R R' : Rs}
end
section
variable {X : Cx} {e : Expr} {fe : Fe} {p pos tpos : PySem.Pos} {elts : List Expr} {kk : Nat}
end
end Zk
namespace Zk
open PySem PySem.Spec PyProof.Rows L2 RZ RT
section
variable {K : PySem.W.Frag} {Z Z' Z0 : Addr → Prop} {H H' H0 : Hp} {σ : L2.St} {E E' : Ev} {R R' R0 : Rs}
end
section
variable {X : Cx} {tg e e2 : Expr} {fe f2 : Fe} {p pos tpos : PySem.Pos} {elts : List Expr} {kk : Nat}
end
end Zk
namespace Zk
open PySem PySem.Spec PyProof.Rows L2
section
variable {K : PySem.W.Frag} {H : Hp} {σ : L2.St}
end
section
variable {X : Cx} {o e : Expr} {es : List Expr} {fe : Fe} {fa : Fa} {p pos apos : PySem.Pos} {x : Str}
end
end Zk
namespace Zk
open PySem PySem.Spec PyProof.Rows L2
end Zk
namespace Zk
open PySem PySem.Spec PyProof.Rows L2
section
variable {E0 : Ev} {g : Fg} {f : Fe} {is : List Nat} {α : Type} {xs : List α} {ι : α → D} {Q : List (D × Nat) × Ev → Prop}
/-- all of them, no filter -/
theorem W_lcY {c : Ft} (ρ : α → D) (hρ : ∀ x, imm (ρ x) = true) (hl : xs.length < sizeLine)
    (st : ∀ x ∈ xs, W (g (ι x) E0) fun E1 => W (c E1) fun q => q.1 = true ∧ W (f q.2) fun r => W (tk r.2 r.1) fun t => t.1 = ρ x ∧ wipeE t.2.2 is = E0)
    (fin : ∀ acc : List (D × Nat), acc.map (·.1) = xs.map ρ → uni acc = 9 → Q (acc, E0)) : W (lcM g c f is (xs.map ι) E0 []) Q :=
  W_lcX (p := fun _ => true) ρ hρ hl (fun x hx => (st x hx).mono fun E1 h => h.mono fun q h => by
    rw [h.1, IfB_t]; exact ⟨rfl, h.2⟩) fun acc ha hu => fin acc (by rw [ha, List.filter_eq_self.mpr (by simp)]) hu
/-- ints -/
theorem W_lcN {c : Ft} (v : α → Int) (hl : xs.length < sizeLine)
    (st : ∀ x ∈ xs, W (g (ι x) E0) fun E1 => W (c E1) fun q => q.1 = true ∧ W (f q.2) fun r => W (tk r.2 r.1) fun t => t.1 = .int (v x) ∧ wipeE t.2.2 is = E0)
    (fin : ∀ acc : List (D × Nat), acc.map (·.1) = (xs.map v).map D.int → uni acc = 9 → Q (acc, E0)) : W (lcM g c f is (xs.map ι) E0 []) Q :=
  W_lcY (fun x => .int (v x)) (fun _ => by simp) hl st fun acc ha hu => fin acc (by rw [ha, List.map_map]; rfl) hu
/-- ints, filtered -/
theorem W_lcNF {c : Ft} (p : α → Bool) (v : α → Int) (hl : xs.length < sizeLine)
    (st : ∀ x ∈ xs, W (g (ι x) E0) fun E1 => W (c E1) fun q => IfB q.1 (p x = true ∧ W (f q.2) fun r => W (tk r.2 r.1) fun t => t.1 = .int (v x) ∧ wipeE t.2.2 is = E0) (p x = false ∧ wipeE q.2 is = E0))
    (fin : ∀ acc : List (D × Nat), acc.map (·.1) = ((xs.filter p).map v).map D.int → uni acc = 9 → Q (acc, E0)) : W (lcM g c f is (xs.map ι) E0 []) Q :=
  W_lcX p (fun x => .int (v x)) (fun _ => by simp) hl st fun acc ha hu => fin acc (by rw [ha, List.map_map]; rfl) hu
end
theorem rng0 (n : Nat) : rng 0 n = (List.range n).map fun b : Nat => D.int (b : Int) := by
  unfold rng
  refine List.map_congr_left fun b _ => ?_
  simp
section
variable {X : Cx} {a b : Expr} {fa fb : Fe} {pos : PySem.Pos}
end
end Zk
namespace Zk
open PySem PySem.Spec PyProof.Rows L2
theorem W_O {α : Type} {x : Option α} {Q : α → Prop} (h : ∀ Q' : α → Prop, (∀ a, Q a → Q' a) → W x Q') : W x Q := h Q fun _ h => h
theorem W_seqO {s t : Fs} {E : Ev} {Q : Fl × Ev → Prop} (J : Ev → Prop) (h : ∀ J' : Ev → Prop, (∀ E, J E → J' E) → W (s E) fun p => p.1 = .nx ∧ J' p.2) (k : ∀ E1, J E1 → W (t E1) Q) : W (mSeq s t E) Q :=
  W_seqJ J (h J fun _ h => h) k
section
variable {g : Fg} {body : Fs} {E : Ev} {Qs : Fl × Ev → Prop}
end
theorem W_lcO {g : Fg} {c : Ft} {f : Fe} {is : List Nat} {its : List D} {E : Ev} {Q : List (D × Nat) × Ev → Prop} (I : Nat → Ev → List (D × Nat) → Prop) (hl : its.length < sizeLine) (h0 : I 0 E [])
    (st : ∀ k d E acc (I' : Ev → List (D × Nat) → Prop), its[k]? = some d → acc.length ≤ k → I k E acc → (∀ E a, I (k + 1) E a → I' E a) → W (g d E) fun E1 => W (c E1) fun q =>
      IfB q.1 (W (f q.2) fun r => W (tk r.2 r.1) fun t => I' (wipeE t.2.2 is) (acc ++ [(t.1, t.2.1)])) (I' (wipeE q.2 is) acc)) (fin : ∀ E acc, acc.length ≤ its.length → I its.length E acc → Q (acc, E)) : W (lcM g c f is its E []) Q :=
  W_lcI I hl h0 (fun k d E acc hd ha i => st k d E acc _ hd ha i fun _ _ h => h) fin
end Zk
namespace Zk
open PySem PySem.Spec PyProof.Rows L2
section
variable {K : PySem.W.Frag}
end
section
variable {X : Cx} {a b c : Expr} {fa fb fc : Fe} {pos : PySem.Pos}
end
section
variable {E : Ev} {a b c : Fe} {Qe : Op × Ev → Prop}
end
end Zk
set_option maxHeartbeats 4000000
namespace Zk
open PySem PySem.Spec PyProof.Rows L2
section
variable {prg : Program} {wd : World} {Ar : Around} {EE : Value → Shared → Prop} {sh : Shared}
end
section
variable {X : Cx} {a : Expr} {ta : TE} {p p2 q pos : PySem.Pos}
end
section
variable {K : PySem.W.Frag}
end
section
variable {X : Cx} {a : Expr} {fa : Fe} {p p2 q pos : PySem.Pos}
end
end Zk
namespace Zk
open PySem PySem.Spec PyProof.Rows L2
section
variable {K : PySem.W.Frag} {Z Z' Zf Z0 Z1 Z2 Z5 Z6 : Addr → Prop} {H H' H0 H1 H2 H5 H6 : Hp} {σ σ' τ : L2.St} {E E' E1 E2 EF : Ev} {R R' R0 R1 R2 R5 R6 Rw : Rs} {D0 : Addr} {accV : List V} {accD accF : List (D × Nat)} {rss : List (List Addr)}
/-- the new list at D0 and its items, told since Z1, H1, Rw -/
structure LS (K : PySem.W.Frag) (Z1 : Addr → Prop) (H1 : Hp) (Rw : Rs) (D0 : Addr) (Z2 : Addr → Prop) (H2 : Hp) (R2 : Rs) (accV : List V) (accD : List (D × Nat)) (rss : List (List Addr)) : Prop where
  h2D : H2 D0 = some (.lst accV)
  z2D : ¬ Z2 D0
  o2D : ¬ ow R2 D0
  tl : TL K Z2 H2 accV accD rss
  tnd : rss.flatten.Nodup
  tno : ∀ a ∈ rss.flatten, ¬ ow R2 a ∧ a ≠ D0 ∧ (ow Rw a ∨ H1 a = none)
  t2 : Step Z1 H1 (ow Rw) Z2 H2 (ow R2)
theorem LS.keep (L : LS K Z1 H1 Rw D0 Z2 H2 R2 accV accD rss) (s2 : S K Z2 H2 σ E2 R2) (t : Step Z2 H2 (ow R2) Z6 H6 (ow R6)) : LS K Z1 H1 Rw D0 Z6 H6 R6 accV accD rss := by
  obtain ⟨h2D, z2D, o2D, tl, tnd, tno, t2⟩ := L
  refine ⟨t.hh D0 _ h2D o2D, fun z => ?_, fun z => ?_, All3.imp tl fun v d rs m o => (s2.pend t o fun a ma => (tno a (mem_flatten_of m ma)).1).1, tnd, fun a ma => ⟨fun z => ?_, (tno a ma).2⟩, t2.trans t⟩
  · rcases t.zn D0 z with z | z | z
    · exact z2D z
    · rw [h2D] at z; cases z
    · exact o2D z
  · rcases t.on D0 z with z | z
    · exact o2D z
    · rw [h2D] at z; cases z
  · rcases t.on a z with z | z
    · exact (tno a ma).1 z
    · exact TL.there tl a ma z
/-- slots forgotten -/
theorem LS.less (L : LS K Z1 H1 Rw D0 Z2 H2 R2 accV accD rss) (s2 : S K Z2 H2 σ E2 R2) (h : ∀ a, ow R6 a → ow R2 a) : LS K Z1 H1 Rw D0 Z2 H2 R6 accV accD rss :=
  L.keep s2 ⟨fun _ h => h, fun _ h => .inl h, fun _ _ h _ => h, fun a z => .inl (h a z), fun _ h => h⟩
theorem ow_wipe {is : List Nat} (h1 : ∀ k, k ∉ is → R' k = R k) (h2 : ∀ k ∈ is, R' k = []) : ∀ a, ow R' a → ow R a := fun a ⟨k, m⟩ => by
  by_cases ck : k ∈ is
  · rw [h2 k ck] at m; simp at m
  · exact ⟨k, by rw [← h1 k ck]; exact m⟩
/-- one item more -/
theorem LS.item {f : Fe} {o6 : Op} {E6 E7 : Ev} {dv : D} {nv : Nat} {Nx : Hp → Prop} (s5 : S K Z5 H5 τ E R5) (hD1 : H1 D0 = none) (L : LS K Z1 H1 Rw D0 Z5 H5 R5 accV accD rss) (e6 : f E = some (o6, E6)) (e7 : tk E6 o6 = some (dv, nv, E7)) (hsz : accD.length < sizeLine)
    (k : ∀ (y : V) (Z7 : Addr → Prop) (H7 : Hp) (R7 : Rs) (rs : List Addr), S K Z7 H7 τ E7 R7 → LS K Z1 H1 Rw D0 Z7 H7 R7 (accV ++ [y]) (accD ++ [(dv, nv)]) (rss ++ [rs]) → Pers Z5 H5 Z7 H7 → Nx H7) :
    eOf K f τ H5 fun y H7 => ∃ acc, H7 D0 = some (.lst acc) ∧ acc.length < sizeLine ∧ Nx (upd H7 D0 (.lst (acc ++ [y]))) := by
  refine ⟨Z5, E, R5, s5, o6, E6, e6, fun y6 Z6 H6 R6 rs6 s6 t6 ov6 f6 => ?_⟩
  obtain ⟨Z7, R7, s7, t7, o7, n7, sub7⟩ := s6.take ov6 f6.no e7
  have t57 := t6.trans t7
  have L7 := L.keep s5 t57
  have p57 := s5.pers t57
  refine ⟨accV, L7.h2D, by rw [TL.len L.tl]; exact hsz, ?_⟩
  have neD : ∀ a ∈ rs6, a ≠ D0 := fun a ma e => by
    subst e
    rcases f6.of a ma with z | z
    · exact L.o2D z
    · rw [L.h2D] at z; cases z
  have apart : ∀ a ∈ rs6, a ∉ rss.flatten := fun a ma z => by
    rcases f6.of a ma with y | y
    · exact (L.tno a z).1 y
    · exact TL.there L.tl a z y
  obtain ⟨s8, p8⟩ := s7.free (o' := .lst (accV ++ [y6])) L7.h2D trivial L7.o2D L7.z2D
  have tl8 : TL K Z7 (upd H6 D0 (.lst (accV ++ [y6]))) (accV ++ [y6]) (accD ++ [(dv, nv)]) (rss ++ [rs6]) :=
    All3.append (All3.imp L7.tl fun v d rs m o => o.keep p8 fun a ma => ⟨upd_ne (L7.tno a (mem_flatten_of m ma)).2.1, (o.mut a ma).2⟩)
      (.cons (o7.keep p8 fun a ma => ⟨upd_ne (neD a ma), (o7.mut a ma).2⟩) .nil)
  have t8 : Step Z1 H1 (ow Rw) Z7 (upd H6 D0 (.lst (accV ++ [y6]))) (ow R7) := by
    have tt := L7.t2
    refine ⟨tt.zz, tt.zn, fun a o ho h => ?_, tt.on, fun a h e => ?_⟩
    · have ne : a ≠ D0 := fun e => by rw [e, hD1] at ho; cases ho
      rw [upd_ne ne]; exact tt.hh a o ho h
    · by_cases ca : a = D0
      · rw [ca, upd_same] at e; cases e
      · rw [upd_ne ca] at e; exact tt.dm a h e
  refine k y6 Z7 _ R7 rs6 s8 ⟨upd_same, L7.z2D, L7.o2D, tl8, ?_, fun a ma => ?_, t8⟩ (p57.trans p8)
  · rw [List.flatten_append]
    simp only [List.flatten_cons, List.flatten_nil, List.append_nil]
    exact List.nodup_append.mpr ⟨L.tnd, f6.nd, fun a ma b mb e => apart b mb (e ▸ ma)⟩
  · rw [List.flatten_append] at ma
    simp only [List.flatten_cons, List.flatten_nil, List.append_nil, List.mem_append] at ma
    rcases ma with ma | ma
    · exact L7.tno a ma
    · refine ⟨n7 a ma, neD a ma, ?_⟩
      rcases f6.of a ma with z | z
      · exact L.t2.on a z
      · cases cc : H1 a with
        | none => exact .inr rfl
        | some u => exact absurd z (L.t2.dm a (by rw [cc]; simp))
end
section
variable {X : Cx} {elt tg iter tg1 iter1 : Expr} {ifs ifs1 : List Expr} {fe : Fe} {ft ft1 : Ft} {fi fi1 : Fi} {g g1 : Fg} {scope : Scope} {pos spos py : PySem.Pos} {w w1 : List Nat} {own : List (Str × Nat)} {vs1 : List Nat}
end
section
variable {E E0 : Ev} {it it2 : Fi} {g g2 : Fg} {c c2 : Ft} {f : Fe} {is is2 : List Nat} {Qe : Op × Ev → Prop} {Q : List (D × Nat) × Ev → Prop} {α β : Type}
end
end Zk
namespace Zk
open PySem PySem.Spec PyProof.Rows L2
section
variable {X : Cx} {a b c d : Expr} {pos : PySem.Pos} {ta tb tc td : TE} {fa fb fc fd : Fe}
end
section
variable {E : Ev} {a b c d : Fe} {Qe : Op × Ev → Prop}
end
section
variable {prog : Program} {w : World} {A : Around} {Ex : Value → Shared → Prop} {s : Shared}
end
section
variable {X : Cx}
end
section
variable {K : PySem.W.Frag} {Z Z' : Addr → Prop} {H H' : Hp} {σ : L2.St}
end
section
variable {X : Cx} {a : Expr} {fa : Fe} {pos : PySem.Pos}
end
end Zk
namespace Zk
open PySem PySem.Spec PyProof.Rows L2
section
def o0 (t0 : Bool) : HO := if t0 = true then .dT [] else .dK []
theorem o0_ok (t0 : Bool) {P : Program} {w : World} {H : Hp} (h : Heap) (hb : sysModules < h.objs.size) : ObjOk P w H (h.push { cls := .type "dict", data := .dict #[] }) h.objs.size (o0 t0) := by
  cases t0
  · exact dk_empty h hb
  · exact dt_empty h hb
theorem dputA {X : Cx} {pins : List (Addr × Obj)} {σ : L2.St} {H H' : Hp} {s : Shared} {E : Value → Shared → Prop} {D : Addr} {y v : V} {u r : Value} {Q : Unit → Shared → Prop} (hu : X.A.units + 1 < cLine) (I : Inv X pins σ H s) (g : DPut H D y v H')
    (ry : RelV y u) (rv : RelV v r) (h : ∀ s', Inv X pins σ H' s' → Q () s') : wpAny (model X.prog X.w) X.A (dictSet D u r) Q E s := by
  rcases g with ⟨kvs, k, e, ey, l, eH⟩ | ⟨kvs, k, b, e, ey, eb, l, eH⟩
  · subst ey eH
    exact d_dictSet I e l ry rv h
  · subst ey eH
    cases (show u = Value.ref b from ry)
    obtain ⟨z, hd, xs, rel, dd⟩ := dt_of I.hok e
    have zl : xs.length ≤ sizeLine := by
      rw [← Paired.length rel]
      exact z
    have pl : (putK kvs k v).length ≤ sizeLine := by
      have := length_putK kvs k v
      omega
    refine wpAny_dictSet_heap (hsz := zl) (Nat.lt_of_succ_lt hu) (key_of I.hok eb) dd
      fun hp dd' hs => h _ ?_
    obtain ⟨q, es, ep, hq, a2, a3, a4, _, a5⟩ := dd'
    refine d_write I (by rw [e]; exact True.intro) hs ⟨q, hq⟩
      ⟨pl, hd, _, (rel.put k eb rv).keeps fun c ys ec => ?_, q, es, ep, hq, a2, a3, a4, a5⟩
    rw [upd_ne (ne_of ec e fun z => nomatch z)]
    exact ec
variable {X : Cx}
/-- D the new dict -/
def tDcA (t0 : Bool) (wi : TI) (g : TG) (tt : TT) (tk tv : TE) (vs : List Nat) : TE := fun σ H Q => wi σ H fun J M1 => ∀ D, M1 D = none → ∃ W : Nat → Nat → Hp → Prop,
  (∃ m, W 0 m (upd M1 D (o0 t0))) ∧ ∀ i m H, W i m H → (J.stop i H ∧ Q (.ref D) H) ∨
    (J.go i H ∧ ∃ Nx : Hp → Prop, (∀ H', Nx H' → ∃ m', m' < m ∧ W (i + 1) m' H') ∧ ∀ x H', J.yld i H x H' →
      g x (L2.wipe σ vs) H' fun σ2 M2 => L2.wipe σ2 vs = L2.wipe σ vs ∧ tt σ2 M2 fun b M3 => if b = true then
        tk σ2 M3 fun y M4 => tv σ2 M4 fun z M5 => ∃ M6, DPut M5 D y z M6 ∧ Nx M6 else Nx M3)
theorem dcA_core (t0 : Bool) (hu : X.A.units + 1 < cLine) {pins : List (Addr × Obj)} {s : Shared} {σ : L2.St} {H : Hp} {Q : VK} {kx vx tg iter : Expr} {ifs : List Expr} {scope : Scope} {own : List (PySem.Str × Nat)} {pos pos' : PySem.Pos} {wi : TI} {g : TG} {tt : TT} {tk tv : TE} {use : Option (Value → Sem Unit)} {Qf : Value → Shared → Prop}
    (hc : X.calm = true) (hN : X.N.Nodup) (I : Inv X pins σ H s) (hi : PI X tg iter wi) (ok : BlkOk X.N X.env.scope scope own)
    (hg : ∀ (s : Shared) (H : Hp) (C : Addr) (cl : List (PySem.Str × Addr)) (fp : List Addr), PG (X.blk s H scope (compEnvC scope cl C X.env) fp) tg g) (ht : ∀ (s : Shared) (H : Hp) (C : Addr) (cl : List (PySem.Str × Addr)) (fp : List Addr), PTs (X.blk s H scope (compEnvC scope cl C X.env) fp) ifs tt)
    (hk : ∀ (s : Shared) (H : Hp) (C : Addr) (cl : List (PySem.Str × Addr)) (fp : List Addr), PE (X.blk s H scope (compEnvC scope cl C X.env) fp) kx tk)
    (he : ∀ (s : Shared) (H : Hp) (C : Addr) (cl : List (PySem.Str × Addr)) (fp : List Addr), PE (X.blk s H scope (compEnvC scope cl C X.env) fp) vx tv) (hs : ∀ x, foldedSetIterable iter X.env x = pure x)
    (h : tDcA t0 wi g tt tk tv (own.map (·.2)) σ H Q)
    (hRR : ∀ D C s' m H', Inv X pins σ H' s' → Q (.ref D) H' → s'.heap.Ns C m → FpOk X pins H' C → compPost (model X.prog X.w) X.A X.xe use Qf (.ref D) C (.ok .next) s') :
    wpAny (model X.prog X.w) X.A (comprehension (.DictComp kx vx [⟨tg, iter, ifs, 0⟩] scope pos) scope X.env pos' newDict false (eval iter X.env) use) Qf X.xe s := by
  have fr0 : ∀ y ∈ scope.names, y.2 = .free → ∃ c, X.env.cells.lookup y.1 = some c := fun y hy e => by
    rcases ok.free y hy e with k | k
    · exact I.ok.has _ (.inl k)
    · exact I.ok.has _ (.inr k)
  refine wpAny_comprehension_free (use := use) rfl hs (closure_ok fr0) ok.kind (fun y hy e => by rw [ok.uniq y hy, e])
    (thn (hi.run pins s σ H _ I h) fun xv z1 hx => thn hx fun itv z2 u2 => ?_)
  obtain ⟨it, fp, tn, J, M2, e, V2, T, sp2, j2, q⟩ := u2
  subst e
  refine wpAny_newObj_type (newEnv_comp ?_)
  generalize eD0 : z2.heap.objs.size = D
  have nD : M2 D = none := V2.hok.fresh (Nat.le_of_eq eD0)
  obtain ⟨W, ⟨m0, w0⟩, tu⟩ := q D nD
  -- the new list
  generalize es3 : ({ z2 with heap := z2.heap.push { cls := .type "dict", data := .dict #[] } } : Shared) = z3
  have V3 : Inv X pins σ (upd M2 D (o0 t0)) z3 := by
    rw [← es3]
    refine V2.laid (t' := z2.toks) (fun b o e => Heap.get?_push_of_some _ e) (Nat.le_of_eq eD0) ?_
    rw [← eD0]
    exact o0_ok t0 z2.heap V2.big
  have u3 : z3.heap = z2.heap.push { cls := .type "dict", data := .dict #[] } := by rw [← es3]
  have lt0 : ∀ b ∈ fp, b < z2.heap.objs.size := fun b hb => by
    obtain ⟨o, e, _⟩ := T.obj _ _ sp2 b hb
    exact Heap.lt_size e
  have j3 : ∀ b ∈ fp, FpOk X pins (upd M2 D (o0 t0)) b ∧ b < z3.heap.objs.size := fun b hb => by
    have lt1 := lt0 b hb
    refine ⟨⟨?_, (j2 b hb).2⟩, by rw [u3, Heap.size_push]; exact Nat.lt_succ_of_lt lt1⟩
    rw [upd_ne (by rw [← eD0]; exact Nat.ne_of_lt lt1)]
    exact (j2 b hb).1
  have sp3 : tn 0 z3.heap := T.keep _ _ _ sp2 fun b _ o e => by rw [u3]; exact Heap.get?_push_of_some _ e
  have V4 := block_start V3 ok hN j3
  have qg := hg z3 (upd M2 D (o0 t0)) z3.heap.objs.size (cellsFrom (z3.heap.objs.size + 1) scope.names (cloFrom X.env.cells scope.names [])) fp
  have qt := ht z3 (upd M2 D (o0 t0)) z3.heap.objs.size (cellsFrom (z3.heap.objs.size + 1) scope.names (cloFrom X.env.cells scope.names [])) fp
  have qk := hk z3 (upd M2 D (o0 t0)) z3.heap.objs.size (cellsFrom (z3.heap.objs.size + 1) scope.names (cloFrom X.env.cells scope.names [])) fp
  have qe := he z3 (upd M2 D (o0 t0)) z3.heap.objs.size (cellsFrom (z3.heap.objs.size + 1) scope.names (cloFrom X.env.cells scope.names [])) fp
  show codeAny _ _ (.compStart (.DictComp kx vx [⟨tg, iter, ifs, 0⟩] scope pos) 0 (.ref it) (.ref D) (compEnvC scope (cellsFrom (z3.heap.objs.size + 1) scope.names (cloFrom X.env.cells scope.names [])) z3.heap.objs.size X.env)) (compPost (model X.prog X.w) X.A X.xe use Qf (.ref D) z3.heap.objs.size) { z3 with heap := pushCells (z3.heap.push { cls := .type "dict", data := .dict #[] }) scope.names }
  have nf0 : ∀ b ∈ fp, (upd M2 D (o0 t0)) b = none := fun b hb => (j3 b hb).1.1
  generalize ecx : compEnvC scope (cellsFrom (z3.heap.objs.size + 1) scope.names (cloFrom X.env.cells scope.names [])) z3.heap.objs.size X.env = cx at V4 qg qt qk qe ⊢
  have lcx : cx.locals = z3.heap.objs.size := by subst ecx; rfl
  generalize eM3 : upd M2 D (o0 t0) = M3 at V3 V4 qg qt qk qe w0 nf0 j3
  generalize es4 : ({ z3 with heap := pushCells (z3.heap.push { cls := .type "dict", data := .dict #[] }) scope.names } : Shared) = z4 at V4 ⊢
  have sp4 : tn 0 z4.heap := T.keep _ _ _ sp3 fun b _ o e => by rw [← es4]; exact pushCells_keeps _ _ _ _ (Heap.get?_push_of_some _ e)
  have sta : ∀ {σ' : L2.St} {H' : Hp} {s' : Shared}, Inv (X.blk z3 M3 scope cx fp) [] σ' H' s' → (∀ b ∈ fp, H' b = none) → ∀ b ∈ fp, FpOk (X.blk z3 M3 scope cx fp) [] H' b := fun {σ' H' s'} I' hn b hb =>
    ⟨hn b hb, (I'.ok.exf b hb).1, I'.ok.exfs b hb, .inl hb, fun x c e => (I'.ok.exf b hb).2 x c e, fun p hp => absurd (show p ∈ ([] : List (Addr × Obj)) ++ [] from hp) (by simp)⟩
  have lp : codeAny (model X.prog X.w) X.A (.compLoop (.DictComp kx vx [⟨tg, iter, ifs, 0⟩] scope pos) 0 (.ref it) (.ref D) cx) (compPost (model X.prog X.w) X.A X.xe use Qf (.ref D) z3.heap.objs.size) z4 := by
    refine compLoop_anyD (fun n s' => ∃ i H', Inv (X.blk z3 M3 scope cx fp) [] (L2.wipe σ (own.map (·.2))) H' s' ∧ tn i s'.heap ∧ (∀ b ∈ fp, H' b = none) ∧ W i n H') ?_ m0 ⟨0, M3, V4, sp4, nf0, w0⟩
    rintro n z5 ⟨i, M5, V5, sp5, w9, v9⟩
    rcases tu i n M5 v9 with ⟨stop, qq⟩ | ⟨go, Nx, kNx, step⟩
    · have dn0 := T.done (X.blk z3 M3 scope cx fp) rfl rfl rfl hc i [] z5 _ M5 (fun _ _ => False) V5 (sta V5 w9) sp5 stop
      refine thnF dn0 fun r z6 ⟨hr, V6⟩ => ?_
      subst hr
      -- back in the def's context
      have V7 : Inv X pins σ M5 z6 := V3.call' (ch := fp) V6.os V6.base V6.hok V6.bare fun b hb => ⟨(j3 b hb).1.2.2.2.1, (j3 b hb).1.2.1, (j3 b hb).1.2.2.2.2.1, (j3 b hb).1.2.2.2.2.2⟩
      have nC : M5 z3.heap.objs.size = none := by
        have z : M5 cx.locals = none := V6.free
        rw [lcx] at z
        exact z
      obtain ⟨m, hn, _⟩ := V6.loc
      have hn : z6.heap.Ns cx.locals m := hn
      rw [lcx] at hn
      exact hRR D z3.heap.objs.size z6 m M5 V7 qq hn (V3.fpOk (Nat.le_refl _) nC)
    · have it0 := T.item (X.blk z3 M3 scope cx fp) rfl rfl rfl hc i [] z5 _ M5 (fun _ _ => False) V5 (sta V5 w9) sp5 go
      refine thnF it0 fun r z6 ⟨u, hr, u6⟩ => ?_
      subst hr
      refine thnF u6 fun _ z7 ⟨x, M7, V7, r7, y7, sp7, n7⟩ => ?_
      have V7' := V7.pinned (sta V7 n7) (T.obj _ _ sp7)
      refine thnF (qg.run _ z7 _ M7 x u _ V7' r7 (step x M7 y7)) fun _ z8 ⟨σ8, M8, V8, hw8, q8⟩ => ?_
      refine thnF (qt.run _ z8 σ8 M8 _ V8 q8) fun b z9 ⟨M9, V9, q9⟩ => ?_
      -- the tu's end
      have tn9 : ∀ {s' : Shared} {H' : Hp}, Inv (X.blk z3 M3 scope cx fp) ([] ++ pinsAt fp z7.heap) σ8 H' s' → Nx H' → ∃ m, m < n ∧ ∃ i H', Inv (X.blk z3 M3 scope cx fp) [] (L2.wipe σ (own.map (·.2))) H' s' ∧ tn i s'.heap ∧ (∀ b ∈ fp, H' b = none) ∧ W i m H' := fun {s' H'} I' nx => by
        obtain ⟨m', hm, w'⟩ := kNx H' nx
        have pn9 : ∀ b ∈ fp, ∀ o, z7.heap.get? b = some o → s'.heap.get? b = some o ∧ H' b = none := fun b hb o e =>
          let z := I'.pin (b, o) (List.mem_append_right _ (List.mem_append_right _ (mem_pinsAt hb e)))
          ⟨z.1, z.2.1⟩
        have hl : (L2.wipe σ (own.map (·.2))).length = σ8.length := by rw [← hw8, wipe_length]
        refine ⟨m', hm, i + 1, H', (I'.unpinned (pins := [])).weak hl (fun j v e => ?_), T.keep _ _ _ sp7 fun b hb o e => (pn9 b hb o e).1, fun b hb => ?_, w'⟩
        · rw [← hw8] at e
          exact (wipe_some e).1
        · obtain ⟨o, e, _⟩ := T.obj _ _ sp7 b hb
          exact (pn9 b hb o e).2
      cases b with
      | false =>
        simp only [Bool.false_eq_true, if_false] at q9 ⊢
        exact tn9 V9 q9
      | true =>
        simp only [if_true] at q9 ⊢
        refine thnF (qk.run _ z9 σ8 M9 _ V9 q9) fun z z10 ⟨yk, M10, V10, r10, q10⟩ => ?_
        refine thnF (qe.run _ z10 σ8 M10 _ V10 q10) fun z2 z11 ⟨yv, M11, V11, r11, M12, hp12, nx⟩ => ?_
        exact dputA (X := X.blk z3 M3 scope cx fp) hu V11 hp12 r10 r11 fun z12 V12 => tn9 V12 nx
  exact codeAny_compStart_dict lp (T.self X.A 0 _ _ _ sp4 lp)
/-- as a value -/
theorem pe_dcA (t0 : Bool) (hu : X.A.units + 1 < cLine) {kx vx tg iter : Expr} {ifs : List Expr} {scope : Scope} {own : List (PySem.Str × Nat)} {pos : PySem.Pos} {wi : TI} {g : TG} {tt : TT} {tk tv : TE} (hc : X.calm = true) (hN : X.N.Nodup) (hi : PI X tg iter wi) (ok : BlkOk X.N X.env.scope scope own)
    (hg : ∀ (s : Shared) (H : Hp) (C : Addr) (cl : List (PySem.Str × Addr)) (fp : List Addr), PG (X.blk s H scope (compEnvC scope cl C X.env) fp) tg g) (ht : ∀ (s : Shared) (H : Hp) (C : Addr) (cl : List (PySem.Str × Addr)) (fp : List Addr), PTs (X.blk s H scope (compEnvC scope cl C X.env) fp) ifs tt)
    (hk : ∀ (s : Shared) (H : Hp) (C : Addr) (cl : List (PySem.Str × Addr)) (fp : List Addr), PE (X.blk s H scope (compEnvC scope cl C X.env) fp) kx tk)
    (he : ∀ (s : Shared) (H : Hp) (C : Addr) (cl : List (PySem.Str × Addr)) (fp : List Addr), PE (X.blk s H scope (compEnvC scope cl C X.env) fp) vx tv) (hs : ∀ x, foldedSetIterable iter X.env x = pure x := by intro _; rfl) :
    PE X (.DictComp kx vx [⟨tg, iter, ifs, 0⟩] scope pos) (tDcA t0 wi g tt tk tv (own.map (·.2))) := by
  refine ⟨fun pins s σ H Q I h => ?_⟩
  rw [arm_eval_DictComp]
  refine dcA_core t0 hu hc hN I hi ok hg ht hk he hs h fun D C s' m H' I' q hn f => ⟨m, hn, fun h'' sb => ?_⟩
  obtain ⟨f0, f1, j2, j3, f4, f5⟩ := f
  exact ⟨.ref D, H', I'.turned (t' := s'.toks) (fun b o hb e => (sb.2 b hb).trans e) f0 f1 j3 f4 f5, rfl, q⟩
end
section
variable {κ : Type} [DecidableEq κ] {K : PySem.W.Frag} {Z Z' Zf Z0 Z1 Z2 : Addr → Prop} {H H' H0 H1 H2 : Hp} {σ σ' : L2.St} {E E' E1 EF : Ev} {R R' R0 R1 R2 Rw : Rs} {D0 : Addr}
/-- the end of a comprehension whose new thing at D0 owns itself alone -/
theorem nw_end {is : List Nat} {Q : VK} {d : D} {n : Nat} (s1 : S K Z1 H1 σ E1 R1) (t1 : Step Z H (ow R) Z1 H1 (ow R1)) (hD : H1 D0 = none) (w1 : ∀ k, k ∉ is → Rw k = R1 k) (w2 : ∀ k ∈ is, Rw k = []) (p2 : Pers Z1 H1 Z2 H2)
    (s2 : S K Z2 H2 (L2.wipe σ is) EF R2) (r2 : ∀ k ∈ is, R2 k = []) (l2 : EF.length = E1.length) (t2 : Step Z1 H1 (ow Rw) Z2 H2 (ow R2)) (z2D : ¬ Z2 D0) (o2D : ¬ ow R2 D0) (own : Own K Z2 H2 n (.ref D0) d [D0])
    (q : ∀ v Z' H' R' rs, S K Z' H' σ (backE E1 EF is) R' → Step Z H (ow R) Z' H' (ow R') → OV K Z' H' σ v (.val d n) rs → Fr R H R' rs → Q v H') : Q (.ref D0) H2 := by
  have owR : ∀ a, ow Rw a → ow R1 a := ow_wipe w1 w2
  have hidN : ∀ k ∈ is, ∀ a ∈ R1 k, ¬ ow Rw a := fun k hk a ma ⟨l, ml⟩ => by
    by_cases cl : l ∈ is
    · rw [w2 l cl] at ml; simp at ml
    · rw [w1 l cl] at ml
      exact cl ((s1.dj k l a ma ml) ▸ hk)
  have hidH : ∀ k ∈ is, ∀ a ∈ R1 k, H2 a = H1 a ∧ ¬ Z2 a ∧ ¬ ow R2 a := fun k hk a ma => by
    have th := s1.there ⟨k, ma⟩
    refine ⟨?_, fun z => ?_, fun z => ?_⟩
    · cases cc : H1 a with
      | none => exact absurd cc th
      | some u => exact t2.hh a u cc (hidN k hk a ma)
    · rcases t2.zn a z with z | z | z
      · exact (s1.owns ⟨k, ma⟩).2 z
      · exact th z
      · exact hidN k hk a ma z
    · rcases t2.on a z with z | z
      · exact hidN k hk a ma z
      · exact th z
  let RF : Rs := fun k => if k ∈ is then R1 k else R2 k
  obtain ⟨bl, bg⟩ := backE_get is E1 EF
  have sF : S K Z2 H2 σ (backE E1 EF is) RF := by
    refine ⟨by rw [bl, l2, ← s1.len], fun k d n ek => ?_, fun k ek => ?_, fun k => ?_, fun k l a m1 m2 => ?_, s2.zd⟩
    · rw [bg k] at ek
      by_cases ck : k ∈ is
      · by_cases cl : k < EF.length
        · rw [if_pos ⟨ck, cl⟩] at ek
          obtain ⟨v, hv, ov⟩ := s1.slot k d n ek
          refine ⟨v, hv, ?_⟩
          have eR : RF k = R1 k := if_pos ck
          rw [eR]
          exact ov.keep p2 fun a ma => ⟨(hidH k ck a ma).1, (hidH k ck a ma).2.1⟩
        · rw [if_neg fun h => cl h.2] at ek
          exact absurd (eg_lt ek) cl
      · rw [if_neg fun h => ck h.1] at ek
        obtain ⟨v, hv, ov⟩ := s2.slot k d n ek
        have eR : RF k = R2 k := if_neg ck
        rw [eR]
        exact ⟨v, by rw [← wipe_out ck]; exact hv, ov⟩
    · rw [bg k] at ek
      by_cases ck : k ∈ is
      · have eR : RF k = R1 k := if_pos ck
        rw [eR]
        by_cases cl : k < EF.length
        · rw [if_pos ⟨ck, cl⟩] at ek
          exact s1.emp k ek
        · refine s1.emp k ?_
          unfold eg
          rw [List.getElem?_eq_none (by omega)]; rfl
      · rw [if_neg fun h => ck h.1] at ek
        have eR : RF k = R2 k := if_neg ck
        rw [eR]
        exact s2.emp k ek
    · by_cases ck : k ∈ is
      · have eR : RF k = R1 k := if_pos ck
        rw [eR]; exact s1.nd k
      · have eR : RF k = R2 k := if_neg ck
        rw [eR]; exact s2.nd k
    · by_cases ck : k ∈ is
      · have eR : RF k = R1 k := if_pos ck
        rw [eR] at m1
        by_cases cl : l ∈ is
        · have eR : RF l = R1 l := if_pos cl
          rw [eR] at m2
          exact s1.dj k l a m1 m2
        · have eR : RF l = R2 l := if_neg cl
          rw [eR] at m2
          exact absurd ⟨l, m2⟩ (hidH k ck a m1).2.2
      · have eR : RF k = R2 k := if_neg ck
        rw [eR] at m1
        by_cases cl : l ∈ is
        · have eR : RF l = R1 l := if_pos cl
          rw [eR] at m2
          exact absurd ⟨k, m1⟩ (hidH l cl a m2).2.2
        · have eR : RF l = R2 l := if_neg cl
          rw [eR] at m2
          exact s2.dj k l a m1 m2
  have back : ∀ a, H1 a = none → H a = none := fun a h => by
    cases cc : H a with
    | none => rfl
    | some u => exact absurd h (t1.dm a (by rw [cc]; simp))
  have owF : ∀ a, ow RF a → ow R1 a ∨ ow R2 a := fun a ⟨k, m⟩ => by
    by_cases ck : k ∈ is
    · have eR : RF k = R1 k := if_pos ck
      rw [eR] at m; exact .inl ⟨k, m⟩
    · have eR : RF k = R2 k := if_neg ck
      rw [eR] at m; exact .inr ⟨k, m⟩
  have R2on : ∀ a, ow R2 a → ow R a ∨ H a = none := fun a h => by
    rcases t2.on a h with z | z
    · exact t1.on a (owR a z)
    · exact .inr (back a z)
  have tF : Step Z H (ow R) Z2 H2 (ow RF) := by
    refine ⟨fun a z => p2.zz a (t1.zz a z), fun a z => ?_, fun a u hu ha => ?_, fun a h => ?_, fun a h => t2.dm a (t1.dm a h)⟩
    · rcases t2.zn a z with z | z | z
      · exact t1.zn a z
      · exact .inr (.inl (back a z))
      · rcases t1.on a (owR a z) with y | y
        · exact .inr (.inr y)
        · exact .inr (.inl y)
    · refine t2.hh a u (t1.hh a u hu ha) fun z => ?_
      rcases t1.on a (owR a z) with y | y
      · exact ha y
      · rw [hu] at y; cases y
    · rcases owF a h with z | z
      · exact t1.on a z
      · exact R2on a z
  refine q (.ref D0) Z2 H2 RF [D0] sF tF own ⟨by simp, fun a m z => ?_, fun a m => ?_⟩
  · have e : a = D0 := by simpa using m
    subst e
    rcases owF a z with y | y
    · exact s1.there y hD
    · exact o2D y
  · have e : a = D0 := by simpa using m
    subst e
    exact .inr (back a hD)
def dcM (ko : D → Option κ) (g : Fg) (c : Ft) (fk fv : Fe) (is : List Nat) : List D → Ev → List (κ × D) → Option (List (κ × D) × Ev)
  | [], E, acc => some (acc, E)
  | d :: ds, E, acc => (g d E).bind fun E1 => (c E1).bind fun q => if q.1 = true then
      (fk q.2).bind fun r => (fv r.2).bind fun t => (rd t.2 r.1).bind fun kd => (rd t.2 t.1).bind fun vd => (ko kd).bind fun k =>
        if imm vd = true ∧ acc.length < sizeLine then dcM ko g c fk fv is ds (wipeE t.2 is) (putD acc k vd) else none
    else dcM ko g c fk fv is ds (wipeE q.2 is) acc
def mDc (con : List (κ × D) → D) (ko : D → Option κ) (it : Fi) (is : List Nat) (g : Fg) (c : Ft) (fk fv : Fe) : Fe := fun E => (it E).bind fun p => (dcM ko g c fk fv is p.1 (wipeE p.2 is) []).map fun q => (.val (con q.1) 9, backE p.2 q.2 is)
theorem dcA_of (t0 : Bool) {con : List (κ × D) → D} {coh : List (κ × V) → HO} {ko : D → Option κ} {it : Fi} {is w : List Nat} {g : Fg} {c : Ft} {fk fv : Fe} {Q : VK} (hgl : GL g) (hw : ∀ i ∈ w, i ∈ is) (nil : coh [] = o0 t0)
    (mk : ∀ {Z : Addr → Prop} {H : Hp} {a : Addr} {kvs : List (κ × V)} {kds : List (κ × D)} {m : Nat}, H a = some (coh kvs) → ¬ Z a → kvs.map (·.1) = kds.map (·.1) → All3 (Own K Z H m) (kvs.map (·.2)) (kds.map (·.2)) ((kds.map (·.2)).map fun _ => []) → Own K Z H (m + 1) (.ref a) (con kds) [a])
    (mutH : ∀ kvs, Mut (some (coh kvs)))
    (pt : ∀ {Z : Addr → Prop} {H : Hp} {a : Addr} {kvs : List (κ × V)} {kd : D} {k : κ} {kv v : V}, H a = some (coh kvs) → kvs.length < sizeLine → ko kd = some k → Rp K Z H kv kd → DPut H a kv v (upd H a (coh (putK kvs k v))))
    (q : eOf K (mDc con ko it is g c fk fv) σ H Q) : tDcA t0 (iOf K it) (gOf K w g) (cOf K c) (eOf K fk) (eOf K fv) is σ H Q := by
  obtain ⟨Z, E, R, s, o, E', e, q⟩ := q
  unfold mDc at e
  cases e1 : it E with
  | none => rw [e1] at e; cases e
  | some p =>
    obtain ⟨its, E1⟩ := p
    rw [e1] at e
    simp only [Option.bind_some] at e
    cases e2 : dcM ko g c fk fv is its (wipeE E1 is) [] with
    | none => rw [e2] at e; cases e
    | some p2 =>
      obtain ⟨accF, EF⟩ := p2
      rw [e2] at e
      cases e
      refine ⟨Z, E, R, s, its, E1, e1, fun J Z1 H1 R1 s1 t1 ok Dn hD => ?_⟩
      obtain ⟨Rw, sw, w1, w2, w3, w4⟩ := s1.wipe is
      have sw : S K Z1 H1 (L2.wipe σ is) (wipeE E1 is) Rw := sw.sigma (wipe_length σ is) fun i hi => wipe_out fun m => hi (w4 i m)
      have nZ1D : ¬ Z1 Dn := fun z => s1.zd Dn z hD
      have mD : More H1 (upd H1 Dn (o0 t0)) := .upd hD
      rw [← nil] at mD ⊢
      refine ⟨fun i m H2 => ∃ Z2 E2 R2 kvs acc, S K Z2 H2 (L2.wipe σ is) E2 R2 ∧ Step Z1 H1 (ow Rw) Z2 H2 (ow R2) ∧ (∀ k ∈ is, R2 k = []) ∧ E2.length = E1.length ∧ H2 Dn = some (coh kvs) ∧ ¬ Z2 Dn ∧ ¬ ow R2 Dn ∧ KR K Z2 H2 kvs acc ∧ imms (acc.map (·.2)) = true ∧
          dcM ko g c fk fv is (its.drop i) E2 acc = some (accF, EF) ∧ m = its.length - i ∧ i ≤ its.length,
        ⟨its.length, Z1, wipeE E1 is, Rw, [], [], sw.more mD, mD.step _, w2, wipeE_len is E1, upd_same, nZ1D, fun h => sw.there h hD, .nil, by simp, e2, by simp, Nat.zero_le _⟩, ?_⟩
      rintro i m H2 ⟨Z2, E2, R2, kvs, acc, s2, t2, r2, l2, h2D, z2D, o2D, kr, im, e3, rfl, hi⟩
      have p2 : Pers Z1 H1 Z2 H2 := sw.pers t2
      by_cases hlt : i < its.length
      · right
        refine ⟨ok.go Z2 H2 i p2 hlt, ?_⟩
        rw [List.drop_eq_getElem_cons hlt] at e3
        simp only [dcM] at e3
        cases e4 : g its[i] E2 with
        | none => rw [e4] at e3; cases e3
        | some E3 =>
          rw [e4] at e3
          simp only [Option.bind_some] at e3
          cases e5 : c E3 with
          | none => rw [e5] at e3; cases e3
          | some p5 =>
            obtain ⟨b, E5⟩ := p5
            rw [e5] at e3
            simp only [Option.bind_some] at e3
            refine ⟨fun H6 => ∃ m', m' < its.length - i ∧ ∃ Z2 E2 R2 kvs acc, S K Z2 H6 (L2.wipe σ is) E2 R2 ∧ Step Z1 H1 (ow Rw) Z2 H6 (ow R2) ∧ (∀ k ∈ is, R2 k = []) ∧ E2.length = E1.length ∧ H6 Dn = some (coh kvs) ∧ ¬ Z2 Dn ∧ ¬ ow R2 Dn ∧ KR K Z2 H6 kvs acc ∧ imms (acc.map (·.2)) = true ∧
              dcM ko g c fk fv is (its.drop (i + 1)) E2 acc = some (accF, EF) ∧ m' = its.length - (i + 1) ∧ i + 1 ≤ its.length, fun H6 h => h, fun x H3 y => ?_⟩
            obtain ⟨m3, d, hd, rx⟩ := ok.yld Z2 H2 i x H3 p2 hlt y
            have ed : its[i] = d := by rw [List.getElem?_eq_getElem hlt] at hd; exact Option.some.inj hd
            refine ⟨Z2, E2, R2, d, s2.more m3, rx, E3, by rw [← ed]; exact e4, fun σ4 R4 s4 t4 k4 => ⟨?_, ?_⟩⟩
            · have hl : σ4.length = (L2.wipe σ is).length := by rw [s4.len, (s2.more m3).len]; exact hgl _ _ _ e4
              have := wipe_same (σ := L2.wipe σ is) (σ' := σ4) (is := is) hl fun j hj => k4 j fun m => hj (hw j m)
              rw [this]
              exact wipe_same (by rw [wipe_length]) fun j hj => wipe_out hj
            refine ⟨Z2, E3, R4, s4, b, E5, e5, fun Z5 H5 R5 s5 t5 => ?_⟩
            have t35 := (m3.step (ow R2)).trans (t4.trans t5)
            have sig : ∀ j, j ∉ is → σ4[j]? = (L2.wipe σ is)[j]? := fun j hj => k4 j fun m => hj (hw j m)
            -- the new dict across a step
            have keepD : ∀ {Z6 : Addr → Prop} {H6 : Hp} {R6 : Rs}, Step Z2 H2 (ow R2) Z6 H6 (ow R6) → H6 Dn = some (coh kvs) ∧ ¬ Z6 Dn ∧ ¬ ow R6 Dn ∧ KR K Z6 H6 kvs acc := fun {Z6 H6 R6} t => by
              refine ⟨t.hh Dn _ h2D o2D, fun z => ?_, fun z => ?_, kr.1, kr.2.pers (s2.pers t)⟩
              · rcases t.zn Dn z with z | z | z
                · exact z2D z
                · rw [h2D] at z; cases z
                · exact o2D z
              · rcases t.on Dn z with z | z
                · exact o2D z
                · rw [h2D] at z; cases z
            -- behind a turn
            have fwd : ∀ {Z7 : Addr → Prop} {H7 : Hp} {E7 : Ev} {R7 : Rs} {kvs : List (κ × V)} {acc : List (κ × D)}, S K Z7 H7 σ4 E7 R7 → Step Z1 H1 (ow Rw) Z7 H7 (ow R7) → H7 Dn = some (coh kvs) → ¬ Z7 Dn → ¬ ow R7 Dn → KR K Z7 H7 kvs acc → imms (acc.map (·.2)) = true →
                dcM ko g c fk fv is (its.drop (i + 1)) (wipeE E7 is) acc = some (accF, EF) → ∃ m', m' < its.length - i ∧ ∃ Z2 E2 R2 kvs acc, S K Z2 H7 (L2.wipe σ is) E2 R2 ∧ Step Z1 H1 (ow Rw) Z2 H7 (ow R2) ∧ (∀ k ∈ is, R2 k = []) ∧ E2.length = E1.length ∧ H7 Dn = some (coh kvs) ∧ ¬ Z2 Dn ∧ ¬ ow R2 Dn ∧ KR K Z2 H7 kvs acc ∧ imms (acc.map (·.2)) = true ∧
                  dcM ko g c fk fv is (its.drop (i + 1)) E2 acc = some (accF, EF) ∧ m' = its.length - (i + 1) ∧ i + 1 ≤ its.length := fun {Z7 H7 E7 R7 kvs acc} s7 t7 hD7 zD7 oD7 kr7 im7 e7 => by
              obtain ⟨Rx, sx, x1, x2, x3, x4⟩ := s7.wipe is
              have owx : ∀ a, ow Rx a → ow R7 a := ow_wipe x1 x2
              have sx : S K Z7 H7 (L2.wipe σ is) (wipeE E7 is) Rx := sx.sigma (by have a1 := s7.len; have a2 := s4.len; have a3 := hgl _ _ _ e4; have a4 := s2.len; have a5 := wipe_length σ is; omega) fun j hj => (sig j fun m => hj (x4 j m)).symm
              exact ⟨_, by omega, Z7, _, Rx, kvs, acc, sx, t7.trans ⟨fun _ h => h, fun _ h => .inl h, fun _ _ h _ => h, fun a h => .inl (owx a h), fun _ h => h⟩, x2, by have a1 := s7.len; have a2 := s4.len; have a3 := hgl _ _ _ e4; rw [wipeE_len]; omega, hD7, zD7, fun h => oD7 (owx Dn h), kr7, im7, e7, rfl, hlt⟩
            cases b with
            | false =>
              rw [if_neg Bool.false_ne_true] at e3
              refine iteF ?_
              obtain ⟨k1, k2, k3, k4'⟩ := keepD (R6 := R5) t35
              exact fwd s5 (t2.trans t35) k1 k2 k3 k4' im e3
            | true =>
              rw [if_pos rfl] at e3
              refine iteT ?_
              cases e6 : fk E5 with
              | none => rw [e6] at e3; cases e3
              | some p6 =>
                obtain ⟨o6, E6⟩ := p6
                rw [e6] at e3
                simp only [Option.bind_some] at e3
                cases e7 : fv E6 with
                | none => rw [e7] at e3; cases e3
                | some p7 =>
                  obtain ⟨o7, E7⟩ := p7
                  rw [e7] at e3
                  simp only [Option.bind_some] at e3
                  cases e8 : rd E7 o6 with
                  | none => rw [e8] at e3; cases e3
                  | some kd =>
                    cases e9 : rd E7 o7 with
                    | none => rw [e8, e9] at e3; cases e3
                    | some vd =>
                      rw [e8, e9] at e3
                      simp only [Option.bind_some] at e3
                      cases e10 : ko kd with
                      | none => rw [e10] at e3; cases e3
                      | some k =>
                        rw [e10] at e3
                        simp only [Option.bind_some] at e3
                        split at e3
                        · rename_i hc
                          refine ⟨Z5, E5, R5, s5, o6, E6, e6, fun y6 Z6 H6 R6 rs6 s6 t6 ov6 f6 => ?_⟩
                          refine ⟨Z6, E6, R6, s6, o7, E7, e7, fun y7 Z7 H7 R7 rs7 s7 t7 ov7 f7 => ?_⟩
                          obtain ⟨pe, pn⟩ := s6.pendO t7 ov6 f6.no
                          have rk := s7.read pe e8
                          have rv : Rp K Z7 H7 y7 vd := (s7.read ov7 e9).immz (fun a o h _ => h) hc.1
                          have tx := t35.trans (t6.trans t7)
                          obtain ⟨k1, k2, k3, k4'⟩ := keepD (R6 := R7) tx
                          obtain ⟨s8, p8⟩ := s7.free (o' := coh (putK kvs k y7)) k1 (mutH _) k3 k2
                          have kr8 := k4'.put k rv
                          refine ⟨_, pt (v := y7) k1 (by rw [k4'.len]; exact hc.2) e10 rk, ?_⟩
                          have t8 : Step Z1 H1 (ow Rw) Z7 (upd H7 Dn (coh (putK kvs k y7))) (ow R7) := by
                            have tt := t2.trans tx
                            refine ⟨tt.zz, tt.zn, fun a o ho h => ?_, tt.on, fun a h e => ?_⟩
                            · have ne : a ≠ Dn := fun e => by rw [e, hD] at ho; cases ho
                              rw [upd_ne ne]; exact tt.hh a o ho h
                            · by_cases ca : a = Dn
                              · rw [ca, upd_same] at e; cases e
                              · rw [upd_ne ca] at e; exact tt.dm a h e
                          exact fwd s8 t8 upd_same k2 k3 ⟨kr8.1, kr8.2.pers p8⟩ (imms_put im hc.1) e3
                        · cases e3
      · left
        have ei : i = its.length := by omega
        subst ei
        rw [List.drop_length] at e3
        cases e3
        refine ⟨ok.stop Z2 H2 p2, nw_end s1 t1 hD w1 w2 p2 s2 r2 l2 t2 z2D o2D (mk (m := 8) h2D z2D kr.1 (All3.ofRpsI kr.2 im)) q⟩
def mDcK (it : Fi) (is : List Nat) (g : Fg) (c : Ft) (fk fv : Fe) : Fe := mDc D.dK keyOf it is g c fk fv
end
section
variable {X : Cx} {kx vx tg iter : Expr} {ifs : List Expr} {fk fv : Fe} {ft : Ft} {fi : Fi} {g : Fg} {scope : Scope} {pos : PySem.Pos} {w : List Nat} {own : List (PySem.Str × Nat)}
end
section
variable {κ : Type} [DecidableEq κ] {E E0 : Ev} {it : Fi} {g : Fg} {c : Ft} {fk fv : Fe} {is : List Nat} {Qe : Op × Ev → Prop} {con : List (κ × D) → D} {ko : D → Option κ} {Q : List (κ × D) × Ev → Prop}
theorem W_dc0 : W (mDc con ko it is g c fk fv E) Qe ↔ W (it E) fun p => W (dcM ko g c fk fv is p.1 (wipeE p.2 is) []) fun q => Qe (.val (con q.1) 9, backE p.2 q.2 is) := by
  unfold mDc
  exact W_bind.trans (W_ext fun p => W_map)
theorem put_lenD (m : List (κ × D)) (k : κ) (v : D) : (putD m k v).length ≤ m.length + 1 := by
  unfold putD
  split <;> simp
/-- a dict comprehension over own data that changes nothing else -/
theorem W_dcX {α : Type} {ι : α → D} (p : α → Bool) (kk : α → κ) (vv : α → D) (hv : ∀ x, imm (vv x) = true) : ∀ (xs : List α) (acc0 : List (κ × D)), acc0.length + xs.length ≤ sizeLine →
    (∀ x ∈ xs, W (g (ι x) E0) fun E1 => W (c E1) fun q => IfB q.1 (p x = true ∧ W (fk q.2) fun r => W (fv r.2) fun t => W (rd t.2 r.1) fun kd => W (rd t.2 t.1) fun vd => ko kd = some (kk x) ∧ vd = vv x ∧ wipeE t.2 is = E0) (p x = false ∧ wipeE q.2 is = E0)) →
    Q ((xs.filter p).foldl (fun a x => putD a (kk x) (vv x)) acc0, E0) → W (dcM ko g c fk fv is (xs.map ι) E0 acc0) Q := by
  intro xs
  induction xs with
  | nil =>
    intro acc0 hl st fin
    exact W_some.mpr fin
  | cons x xs ih =>
    intro acc0 hl st fin
    rw [List.length_cons] at hl
    rw [List.map_cons]
    unfold dcM
    refine W_bind.mpr ((st x List.mem_cons_self).mono fun E1 h1 => W_bind.mpr (h1.mono fun q h2 => W_iteB.mpr ?_))
    obtain ⟨b, E2⟩ := q
    cases b with
    | false =>
      rw [IfB_f] at h2 ⊢
      rw [h2.2]
      refine ih acc0 (by omega) (fun z hz => st z (List.mem_cons_of_mem _ hz)) ?_
      rw [List.filter_cons_of_neg (by simp [h2.1])] at fin
      exact fin
    | true =>
      rw [IfB_t] at h2 ⊢
      refine W_bind.mpr (h2.2.mono fun r h3 => W_bind.mpr (h3.mono fun t h4 => W_bind.mpr (h4.mono fun kd h5 => W_bind.mpr (h5.mono fun vd h6 => ?_))))
      rw [h6.1, Option.bind_some, h6.2.1, if_pos ⟨hv x, by omega⟩, h6.2.2]
      have := put_lenD acc0 (kk x) (vv x)
      refine ih _ (by omega) (fun z hz => st z (List.mem_cons_of_mem _ hz)) ?_
      rw [List.filter_cons_of_pos (by simp [h2.1]), List.foldl_cons] at fin
      exact fin
end
@[simp ↓] theorem W_dcKm {E : Ev} {it : Fi} {is : List Nat} {g : Fg} {c : Ft} {fk fv : Fe} {Qe : Op × Ev → Prop} : W (mDcK it is g c fk fv E) Qe ↔ W (mDc D.dK keyOf it is g c fk fv E) Qe := Iff.rfl
end Zk
namespace Zk
open PySem PySem.Spec PyProof.Rows L2
abbrev lexL := HT.lexLt
theorem lexL_cc (x y : Int) (xs ys : List Int) : lexL (x :: xs) (y :: ys) = if x = y then lexL xs ys else decide (x < y) := rfl
theorem lexL_asym : ∀ {a b : List Int}, lexL a b = true → lexL b a = false
  | [], [], h => by cases h
  | [], _ :: _, _ => rfl
  | _ :: _, [], h => by cases h
  | x :: xs, y :: ys, h => by
    rw [lexL_cc] at h ⊢
    by_cases e : x = y
    · rw [if_pos e] at h
      rw [if_pos e.symm]
      exact lexL_asym h
    · rw [if_neg e, decide_eq_true_eq] at h
      rw [if_neg (fun z => e z.symm), decide_eq_false_iff_not]
      omega
theorem lexL_tr : ∀ {a b c : List Int}, lexL b a = false → lexL c b = false → lexL c a = false
  | [], [], _, _, h => h
  | [], _ :: _, [], h1, h2 => by cases h2
  | [], _ :: _, _ :: _, h1, h2 => rfl
  | _ :: _, [], _, h1, _ => by cases h1
  | _ :: _, _ :: _, [], _, h2 => by cases h2
  | x :: xs, y :: ys, z :: zs, h1, h2 => by
    rw [lexL_cc] at h1 h2 ⊢
    by_cases e : y = x
    · rw [if_pos e] at h1
      by_cases e2 : z = y
      · rw [if_pos e2] at h2
        rw [if_pos (e2.trans e)]
        exact lexL_tr h1 h2
      · rw [if_neg e2, decide_eq_false_iff_not] at h2
        rw [if_neg (by omega), decide_eq_false_iff_not]
        omega
    · rw [if_neg e, decide_eq_false_iff_not] at h1
      by_cases e2 : z = y
      · rw [if_neg (by omega), decide_eq_false_iff_not]
        omega
      · rw [if_neg e2, decide_eq_false_iff_not] at h2
        rw [if_neg (by omega), decide_eq_false_iff_not]
        omega
theorem lexL_eq : ∀ {a b : List Int}, lexL a b = false → lexL b a = false → a = b
  | [], [], _, _ => rfl
  | [], _ :: _, h, _ => by cases h
  | _ :: _, [], _, h => by cases h
  | x :: xs, y :: ys, h1, h2 => by
    rw [lexL_cc] at h1 h2
    by_cases e : x = y
    · subst e
      rw [if_pos rfl] at h1 h2
      rw [lexL_eq h1 h2]
    · rw [if_neg e, decide_eq_false_iff_not] at h1
      rw [if_neg (fun z => e z.symm), decide_eq_false_iff_not] at h2
      omega
theorem swo_lexL {α : Type} (k : α → List Int) : SrtO.Swo fun v u => lexL (k v) (k u) := ⟨fun x y h => lexL_asym h, fun x y z h1 h2 => lexL_tr h1 h2⟩
section
variable {prog : Program} {w : World} {A : Around} {s : Shared}
theorem kat_more {b : Bool} {Q : Bool → Shared → Prop} : ∀ {xs ys : List Value} {ns ms : List Int} (i : Nat), IntsAre xs ns → IntsAre ys ms → ns.length = ms.length → Q (lexL ns ms) s → PySem.W.KatLex prog w A b false Q (xs.zip ys) (i + 1) s
  | _, _, _, _, i, .nil, .nil, _, h => PySem.W.kat_nil h
  | _, _, _, _, i, .cons x t hx, .cons y t' hy, hl, h => by
    rw [List.zip_cons_cons]
    refine PySem.W.kat_cons (SeqAt.EqAt.int_int x t y t' prog w _ _ ?_)
    rw [lexL_cc] at h
    refine PySem.W.kat_go (fun e => ?_) (fun e => ?_)
    · have e2 : x = y := by simpa using e
      rw [if_pos e2] at h
      exact PySem.W.kat_yes (kat_more (i + 1) hx hy (by simpa using hl) h)
    · have e2 : ¬ x = y := by simpa using e
      rw [if_neg e2] at h
      refine PySem.W.kat_no ?_
      have z : (b && i + 1 == 0) = false := by simp
      rw [z]
      exact PySem.W.kat_one _ _ (PyProof.Rows.lt_int h)
  | _, _, _, _, i, .nil, .cons _ _ _, hl, _ => by simp at hl
  | _, _, _, _, i, .cons _ _ _, .nil, hl, _ => by simp at hl
/-- the ints of a tuple on the heap -/
def IsTI (h : Heap) (v : Value) (ns : List Int) : Prop := ∃ (a : Addr) (o : Obj) (us : List Value) (n : Nat), v = .ref a ∧ h.get? a = some o ∧ o.cls = .type "tuple" ∧ o.data = .seq us.toArray n ∧ IntsAre us ns
theorem IsTI.keeps {h h' : Heap} {v : Value} {ns : List Int} (x : IsTI h v ns) (kp : ∀ b o, h.get? b = some o → o.cls = .type "tuple" → h'.get? b = some o) : IsTI h' v ns := by
  obtain ⟨a, o, us, n, e, ho, hc, hd, hi⟩ := x
  exact ⟨a, o, us, n, e, kp _ _ ho hc, hc, hd, hi⟩
theorem tups_cmp {vs : List Value} {k : Value → List Int} {d : Nat} (hd : 1 ≤ d) (hp : ∀ v ∈ vs, IsTI s.heap v (k v) ∧ (k v).length = d) : SrtO.Cmp prog w A s (tuples' true) (fun p => p.1 ∈ vs) (SrtO.lt2 fun v u => lexL (k v) (k u)) := by
  intro p q hm hm'
  obtain ⟨h1, l1⟩ := hp _ hm
  obtain ⟨h2, l2⟩ := hp _ hm'
  show wpAny (model prog w) A (keyLt' (tuples' true) p.1 q.1) (fun r s' => s' = s ∧ r = lexL (k p.1) (k q.1)) (fun _ _ => False) s
  generalize k p.1 = xs at h1 l1 ⊢
  generalize k q.1 = ys at h2 l2 ⊢
  obtain ⟨a, o, us, n, e, ho, hc, hdd, hi⟩ := h1
  obtain ⟨a', o', us', n', e', ho', hc', hd', hi'⟩ := h2
  rw [e, e']
  refine PySem.W.kat_lt ho hdd ho' hd' ?_
  have z1 : us.length = xs.length := hi.length
  have z2 : us'.length = ys.length := hi'.length
  have fin : decide (us.toArray.size < us'.toArray.size) = false := by
    rw [decide_eq_false_iff_not, List.size_toArray, List.size_toArray]
    omega
  rw [fin]
  show PySem.W.KatLex prog w A true false _ (us.zip us') 0 s
  cases hi with
  | nil => simp at l1; omega
  | cons x t hx =>
    cases hi' with
    | nil => simp at l2; omega
    | cons y t' hy =>
      rw [List.zip_cons_cons, lexL_cc]
      refine PySem.W.kat_cons (SeqAt.EqAt.int_int x t y t' prog w _ _ ?_)
      refine PySem.W.kat_go (fun e => ?_) (fun e => ?_)
      · have e2 : x = y := by simpa using e
        rw [if_pos e2]
        exact PySem.W.kat_yes (kat_more 0 hx hy (by simp at l1 l2; omega) ⟨rfl, rfl⟩)
      · have e2 : ¬ x = y := by simpa using e
        rw [if_neg e2]
        exact PySem.W.kat_no (PyProof.Rows.oneLt_int ⟨rfl, rfl⟩)
theorem tups_firsts {h : Heap} : ∀ {vs : List Value} {k : Value → List Int}, (∀ v ∈ vs, IsTI h v (k v) ∧ 1 ≤ (k v).length) → ∃ fs, PySem.W.KatTups h vs fs ∧ fs.length = vs.length ∧ ∀ f ∈ fs, ∃ x t, f = Value.int x t
  | [], _, _ => ⟨[], trivial, rfl, by simp⟩
  | v :: vs, k, hp => by
    obtain ⟨fs, h1, h2, h3⟩ := tups_firsts (vs := vs) (k := k) fun u hu => hp u (List.mem_cons_of_mem _ hu)
    obtain ⟨⟨a, o, us, n, e, ho, hc, hd, hi⟩, l⟩ := hp v List.mem_cons_self
    generalize k v = ns at hi l
    cases hi with
    | nil => simp at l
    | cons x t hx =>
      subst e
      exact ⟨.int x t :: fs, ⟨⟨a, o, _, n, rfl, ho, hc, hd, rfl⟩, h1⟩, by simp [h2], fun f hf => by
        rcases List.mem_cons.mp hf with rfl | hf
        · exact ⟨x, t, rfl⟩
        · exact h3 f hf⟩
theorem tups_sortable {a : Addr} {vs : List Value} {k : Value → List Int} {d : Nat} (h0 : 0 < vs.length) (hd : 1 ≤ d) (hp : ∀ v ∈ vs, IsTI s.heap v (k v) ∧ (k v).length = d) (ha : ∀ o, s.heap.get? a = some o → o.cls ≠ .type "tuple") :
    SrtO.SortableO prog w A s a vs fun v u => lexL (k v) (k u) := by
  intro hp2 kp
  have each : ∀ v ∈ vs, IsTI hp2 v (k v) ∧ (k v).length = d := fun v hm => ⟨(hp v hm).1.keeps fun b o e c => kp b o (fun z => by subst z; exact ha o e c) e, (hp v hm).2⟩
  obtain ⟨fs, h1, h2, h3⟩ := tups_firsts fun v hm => ⟨(each v hm).1, by rw [(each v hm).2]; exact hd⟩
  refine ⟨tuples' true, fun Q E hq => ?_, tups_cmp (s := { s with heap := hp2 }) hd each⟩
  refine PySem.W.kat_kind (T := .type "int") h1 (by omega) (fun f hm => ?_) (by rfl) ?_
  · obtain ⟨x, t, rfl⟩ := h3 f hm
    exact PySem.W.Looks.now
  · have ne : (Value.type "int" != Value.type "tuple") = true := by decide +kernel
    rw [ne]
    exact hq
end
def rSrtL (K : PySem.W.Frag) : List V → Hp → VK → Prop := fun vs H Q => ∃ (a : Addr) (xs : List V) (k : V → List Int) (d : Nat), vs = [V.ref a] ∧ SqL K H a xs ∧ 1 ≤ d ∧ (∀ x ∈ xs, ∃ t, x = V.ref t ∧ H t = some (.tup ((k x).map V.int)) ∧ (k x).length = d) ∧
  ∀ ys p, SrtO.Srtd (fun x y => lexL (k x) (k y)) ys → ys.Perm xs → H p = none → Q (.ref p) (upd H p (.lst ys))
theorem cr_srtL {X : Cx} : CallR X (.builtin "sorted") (rSrtL X.K) := by
  intro P' st sg G ws vs Q2 iv rs qq
  obtain ⟨b, xs, kf, d, rfl, hs, hd, each, qq⟩ := qq
  obtain ⟨us, rv, hl, hz⟩ := iv.list hs
  rw [Vals.ref1 rs]
  have hz2 : us.length ≤ sizeLine := by rw [← rv.length]; exact hz
  obtain ⟨e1, e2⟩ := refs_back rv fun x m => by
    obtain ⟨t, e, _⟩ := each x m
    exact ⟨t, e⟩
  have old : ∀ v ∈ us, IsTI st.heap v (kf (backV v)) ∧ (kf (backV v)).length = d := fun v hv => by
    obtain ⟨t, rfl⟩ := e2 v hv
    have hm : V.ref t ∈ xs := by rw [e1]; exact List.mem_map.mpr ⟨_, hv, rfl⟩
    obtain ⟨t', e, ht, hlen⟩ := each _ hm
    cases e
    obtain ⟨_, its2, r2, o, ho, hc, n, hdd⟩ := iv.hok _ _ ht
    exact ⟨⟨t, o, its2, n, rfl, ho, hc, hdd, r2.ints⟩, hlen⟩
  refine SrtO.sorted_ord (ltv := fun v u => lexL (kf (backV v)) (kf (backV u))) (swo_lexL fun u => kf (backV u)) hl.isList hz2 (fun two h₁ a' ea kp => ?_) fun ys s1 s2 => ?_
  · refine tups_sortable (s := { st with heap := h₁ }) (by omega) hd (fun v hv => ?_) fun o e => ?_
    · exact ⟨(old v hv).1.keeps fun c o e _ => (kp c o e).2, (old v hv).2⟩
    · have e' : some o = some (seqObj "list" us.toArray 0) := e.symm.trans ea
      cases e'
      intro c
      exact absurd (Value.type.inj c) (by decide)
  · have h3 : ∀ u ∈ ys, ∃ a, u = Value.ref a := fun u hu => e2 u (s2.perm.mem_iff.mp hu)
    obtain ⟨ep, hh⟩ := PyProof.Rows.sortedAll_at st.heap us ys.toArray
    have hp : (ys.map backV).Perm xs := by
      rw [e1]
      exact s2.perm.map backV
    have ol : (ys.map backV).length ≤ sizeLine := by rw [hp.length_eq]; exact hz
    exact ⟨.ref _, upd G (st.heap.objs.size + 1) (.lst (ys.map backV)),
      iv.laid (t' := st.toks) (fun _ _ => PyProof.Rows.sortedAll_old) (Nat.le_succ _) ⟨ol, ys, ep, vals_back h3, hh⟩,
      rfl, qq _ _ (List.pairwise_map.mpr (s1.imp fun h => h)) hp (iv.hok.fresh (Nat.le_succ _))⟩
def tID (ns : List Int) : D := .tup (ns.map D.int)
@[simp] theorem imm_tID (ns : List Int) : imm (tID ns) = true := by simp [tID]
def srtL (nss : List (List Int)) : List (List Int) := nss.mergeSort fun a b => !lexL b a
theorem srtL_perm (nss : List (List Int)) : (srtL nss).Perm nss := List.mergeSort_perm _ _
theorem srtL_pair (nss : List (List Int)) : SrtO.Srtd lexL (srtL nss) := by
  have h := List.pairwise_mergeSort (le := fun a b : List Int => !lexL b a) (fun a b c h1 h2 => by
    simp only [Bool.not_eq_true', Bool.not_eq_eq_eq_not, Bool.not_true] at *
    exact lexL_tr h1 h2) (fun a b => by
    cases h1 : lexL b a with
    | false => simp
    | true => simp [lexL_asym h1]) nss
  exact h.imp fun h => by simpa using h
theorem srtL_uniq {xs ys : List (List Int)} (p : xs.Perm ys) (h1 : SrtO.Srtd lexL xs) (h2 : SrtO.Srtd lexL ys) : xs = ys :=
  p.eq_of_pairwise (le := fun a b => lexL b a = false) (fun a b _ _ g1 g2 => lexL_eq g2 g1) h1 h2
def tof : List D → Option (List (List Int))
  | [] => some []
  | .tup es :: ds => (iof es).bind fun ns => (tof ds).map (ns :: ·)
  | _ => none
theorem tof_eq : ∀ {ds : List D} {nss : List (List Int)}, tof ds = some nss → ds = nss.map tID
  | [], _, h => by cases h; rfl
  | d :: ds, nss, h => by
    unfold tof at h
    split at h
    · rename_i e; cases e
    · rename_i es ds' e
      cases e
      cases q1 : iof es with
      | none => rw [q1] at h; cases h
      | some ns =>
        rw [q1] at h
        simp only [Option.bind_some] at h
        cases q : tof ds with
        | none => rw [q] at h; cases h
        | some ms => rw [q] at h; cases h; simp [tof_eq q, tID, iof_eq q1]
    · cases h
theorem iof_ints : ∀ ns : List Int, iof (ns.map D.int) = some ns
  | [] => rfl
  | n :: ns => by
    rw [List.map_cons]
    show (iof (ns.map D.int)).map _ = _
    rw [iof_ints ns]; rfl
theorem tof_map (nss : List (List Int)) : tof (nss.map tID) = some nss := by
  induction nss with
  | nil => rfl
  | cons p ps ih =>
    rw [List.map_cons]
    show (iof (p.map D.int)).bind _ = _
    rw [iof_ints, Option.bind_some, ih]; rfl
/-- all of one length, not none -/
def oneLen (nss : List (List Int)) : Bool := match nss with
  | [] => true
  | ns :: _ => decide (1 ≤ ns.length) && nss.all fun ms => decide (ms.length = ns.length)
def gSrtL : List D → Option (D × Nat)
  | [.lst ds] => (tof ds).bind fun nss => if oneLen nss = true then some (.lst ((srtL nss).map tID), 9) else none
  | _ => none
section
variable {K : PySem.W.Frag} {H : Hp}
def vInt : V → Int
  | .int i => i
  | _ => 0
def kOfL (H : Hp) (x : V) : List Int := match x with
  | .ref t => match H t with
    | some (.tup vs) => vs.map vInt
    | _ => []
  | _ => []
theorem vInts (ns : List Int) : (ns.map V.int).map vInt = ns := by rw [List.map_map]; induction ns with
  | nil => rfl
  | cons n ns ih => rw [List.map_cons, ih]; rfl
theorem Rp.tupI {Z : Addr → Prop} {v : V} {ns : List Int} (h : Rp K Z H v (tID ns)) : ∃ t, v = .ref t ∧ H t = some (.tup (ns.map V.int)) := by
  cases h with
  | tup s r =>
    cases r.ints
    exact ⟨_, rfl, s⟩
theorem kOfL_at {t : Addr} {ns : List Int} (h : H t = some (.tup (ns.map V.int))) : kOfL H (.ref t) = ns := by
  unfold kOfL
  simp only [h]
  exact vInts ns
theorem Rps.tups {Z : Addr → Prop} : ∀ {vs : List V} {nss : List (List Int)}, Rps K Z H vs (nss.map tID) → vs.map (kOfL H) = nss ∧ ∀ x ∈ vs, ∃ t, x = V.ref t ∧ H t = some (.tup ((kOfL H x).map V.int))
  | _, [], h => by cases h; exact ⟨rfl, fun x m => by simp at m⟩
  | _, ns :: nss, h => by
    cases h with
    | cons h t =>
      obtain ⟨e, q⟩ := Rps.tups t
      obtain ⟨u, rfl, hu⟩ := Rp.tupI h
      refine ⟨by rw [List.map_cons, e, kOfL_at hu], fun x m => ?_⟩
      rcases List.mem_cons.mp m with rfl | m
      · exact ⟨u, rfl, by rw [kOfL_at hu]; exact hu⟩
      · exact q x m
theorem Rps.ofTups {Z : Addr → Prop} : ∀ {vs : List V}, (∀ x ∈ vs, ∃ t, x = V.ref t ∧ H t = some (.tup ((kOfL H x).map V.int))) → Rps K Z H vs ((vs.map (kOfL H)).map tID)
  | [], _ => .nil
  | v :: vs, h => by
    obtain ⟨t, e, ht⟩ := h v List.mem_cons_self
    refine .cons ?_ (Rps.ofTups fun x m => h x (List.mem_cons_of_mem _ m))
    rw [e] at ht ⊢
    exact .tup ht (Rps.ofInts _)
theorem al_srtL : AL K (rSrtL K) gSrtL := by
  intro Z H vs ds d n Q hz k e q
  unfold gSrtL at e
  split at e
  · rename_i ds
    cases e1 : tof ds with
    | none => rw [e1] at e; cases e
    | some nss =>
      rw [e1] at e
      simp only [Option.bind_some] at e
      split at e
      · rename_i ho
        cases e
        cases tof_eq e1
        obtain ⟨x, rfl, ⟨p, xs, rfl, hp, r⟩⟩ := k.one
        obtain ⟨ek, hx⟩ := r.tups
        obtain ⟨dd, h1, h2⟩ : ∃ dd, 1 ≤ dd ∧ ∀ ns ∈ nss, ns.length = dd := by
          cases nss with
          | nil => exact ⟨1, by omega, by simp⟩
          | cons ns nss =>
            simp only [oneLen, Bool.and_eq_true, decide_eq_true_eq, List.all_eq_true] at ho
            exact ⟨ns.length, ho.1, ho.2⟩
        refine ⟨p, xs, kOfL H, dd, rfl, .inl (.inl hp), h1, fun x hm => ?_, fun ys p' so pm hn => ?_⟩
        · obtain ⟨t, e, ht⟩ := hx x hm
          exact ⟨t, e, ht, h2 _ (by rw [← ek]; exact List.mem_map.mpr ⟨x, hm, rfl⟩)⟩
        have hy : ∀ y ∈ ys, ∃ t, y = V.ref t ∧ H t = some (.tup ((kOfL H y).map V.int)) := fun y hy => hx y (pm.mem_iff.mp hy)
        have ey : ys.map (kOfL H) = srtL nss := srtL_uniq ((pm.map _).trans (by rw [ek]; exact (srtL_perm nss).symm)) (List.pairwise_map.mpr (so.imp fun h => h)) (srtL_pair nss)
        have ry := Rps.ofTups (K := K) (Z := Z) hy
        rw [ey] at ry
        have lv : lev ((srtL nss).map tID) = 9 := by unfold lev; rw [imms_map _ (fun p => by simp)]; rfl
        have := fin_lst (Q := Q) hz ry (by rw [lv]; exact q)
        exact this p' hn
      · cases e
  · cases e
end
section
variable {X : Cx} {a : Expr} {fe : Fe} {pos p : PySem.Pos}
def mSrtL (a : Fe) : Fe := mOp gSrtL (mAc a mA0)
theorem ae_srtL {x : Str} (hg : Gl X x) (hm : X.mg x = none) (ha : AE X a fe) (hx : bootBuiltins x = some (.builtin "sorted") := by exact boot_sorted) (hn : x ≠ "__name__" := by decide) (hdb : (x == ("__debug__" : Str)) = false := by decide)
    (he : starEach [a] X.env = (false, eval a X.env) :: starEach [] X.env := by rfl) (hpl : (backTo pos (starEach [] X.env)).any (·.1) = false := by rfl) : AE X (.Call (.Name x p) [a] [] pos) (mSrtL fe) :=
  PE.mono (pe_callB cr_srtL hg hm hx (aa_cons ha aa_nil he) hn hdb he hpl) fun σ H Q q => op_of al_srtL q
end
@[simp ↓] theorem W_srtL {E : Ev} {a : Fe} {Qe : Op × Ev → Prop} : W (mSrtL a E) Qe ↔ W (mOp gSrtL (mAc a mA0) E) Qe := Iff.rfl
theorem gSrtL_map {nss : List (List Int)} (h : oneLen nss = true) : gSrtL [.lst (nss.map tID)] = some (.lst ((srtL nss).map tID), 9) := by
  simp only [gSrtL, tof_map, Option.bind_some, h, if_true]
end Zk
namespace Zk
noncomputable section
open PySem PySem.Spec PyProof.Rows L2
def S_law_drawsb : Fs := (mSeq (mSet 2 (mLc (mSq (mSl (mVar 0) (mC .non) (mInt (mC (.int 63))))) [3] (tgV 3) mYes (mMod (mOp gInt (mAc (mVar 3) mA0)) (mShl (mC (.int 1)) (mC (.int 7200)))))) (mSeq (mIfS (mB (mEq (mOp gLen (mAc (mVar 2) mA0)) (mC (.int 0)))) (mEx (mApp 2 (mC (.int 0)))) mNx) (mSeq (mSet 4 (mOp gList (mAc (mVar 2) mA0))) (mSeq (mSet 5 (mLst mA0)) (mSeq (mFor (mRg1 (mVar 1)) (tgV 6) (mSeq (mSet 7 (mMod (mOp gInt (mAc (mVar 6) mA0)) (mOp gLen (mAc (mVar 2) mA0)))) (mIfS (mAndT (mB (mGe (mIxd (mVar 2) (mVar 7)) (mPow (mC (.int 10)) (mC (.int 18))))) (mB (mGt (mIxd (mVar 4) (mVar 7)) (mC (.int 0))))) (mSeq (mEx (mApp 5 (mMod (mOp gInt (mAc (mIxd (mVar 4) (mVar 7)) mA0)) (mC (.int 1000))))) (mPut 4 (mVar 7) (mDiv (mIxd (mVar 4) (mVar 7)) (mC (.int 1000))))) (mSeq (mSet 8 (mMod (mOp gInt (mAc (mAdd (mAdd (mMul (mIxd (mVar 2) (mVar 7)) (mC (.int 48271))) (mMul (mVar 6) (mC (.int 69621)))) (mC (.int 11))) mA0)) (mC (.int 2147483647)))) (mEx (mApp 5 (mMod (mOp gInt (mAc (mAdd (mAdd (mMul (mVar 8) (mVar 8)) (mMul (mC (.int 3)) (mVar 8))) (mVar 6)) mA0)) (mC (.int 1000003))))))))) (mSeq (mEx (mRev 5)) (mRet (mVar 5))))))))
def S_law_draws : Mir := mDef none 9 S_law_drawsb
def S_law_takeb : Fs := (mSeq (mIfS (mB (mEq (mOp gLen (mAc (mVar 0) mA0)) (mC (.int 0)))) (mRet (mC (.int 0))) mNx) (mRet (mMod (mOp gInt (mAc (mPop 0) mA0)) (mVar 1))))
def S_law_take : Mir := mDef (some 0) 2 S_law_takeb
def S_law_pickb : Fs := (mRet (mIxd (mVar 1) (mCall (some 0) S_law_take (mAc (mVar 0) (mAc (mOp gLen (mAc (mVar 1) mA0)) mA0)))))
def S_law_pick : Mir := mDef (some 0) 2 S_law_pickb
def S_law_sameb (M : Mir) : Fs := (mSeq (mIfS (mTr (mOp gIsi (mAc (mVar 1) (mAc (mTup (mAc (mC (.ty "tuple")) (mAc (mC (.ty "list")) mA0))) mA0)))) (mSeq (mIfS (mOrT (mB (mNe (mOp gIsi (mAc (mVar 0) (mAc (mC (.ty "tuple")) mA0))) (mOp gIsi (mAc (mVar 1) (mAc (mC (.ty "tuple")) mA0))))) (mB (mNe (mOp gIsi (mAc (mVar 0) (mAc (mC (.ty "list")) mA0))) (mOp gIsi (mAc (mVar 1) (mAc (mC (.ty "list")) mA0)))))) (mRet (mC (.bl false))) mNx) (mSeq (mIfS (mB (mNe (mOp gLen (mAc (mVar 0) mA0)) (mOp gLen (mAc (mVar 1) mA0)))) (mRet (mC (.bl false))) mNx) (mRet (mNotIn (mC (.bl false)) (mLc (mRg1 (mOp gLen (mAc (mVar 1) mA0))) [2] (tgV 2) mYes (mCall none M (mAc (mIxd (mVar 0) (mVar 2)) (mAc (mIxd (mVar 1) (mVar 2)) mA0)))))))) mNx) (mSeq (mIfS (mOrT (mB (mNe (mOp gIsi (mAc (mVar 0) (mAc (mC (.ty "bool")) mA0))) (mOp gIsi (mAc (mVar 1) (mAc (mC (.ty "bool")) mA0))))) (mB (mNe (mOp gIsi (mAc (mVar 0) (mAc (mC (.ty "int")) mA0))) (mOp gIsi (mAc (mVar 1) (mAc (mC (.ty "int")) mA0)))))) (mRet (mC (.bl false))) mNx) (mSeq (mIfS (mOrT (mB (mNe (mOp gIsi (mAc (mVar 0) (mAc (mC (.ty "str")) mA0))) (mOp gIsi (mAc (mVar 1) (mAc (mC (.ty "str")) mA0))))) (mB (mNe (mIsN (mVar 0)) (mIsN (mVar 1))))) (mRet (mC (.bl false))) mNx) (mRet (mEq (mVar 0) (mVar 1))))))
def S_law_same : Nat → Mir
  | 0 => fun _ => none
  | n + 1 => mDef none 3 (S_law_sameb (S_law_same n))
def S_law_countb : Fs := (mSeq (mIfS (mB (mEq (mCall (some 0) S_law_take (mAc (mVar 0) (mAc (mC (.int 9)) mA0))) (mC (.int 0)))) (mRet (mCall (some 0) S_law_pick (mAc (mVar 0) (mAc (mLst (mAc (mAdd (mPow (mC (.int 10)) (mC (.int 9))) (mC (.int 7))) (mAc (mAdd (mPow (mC (.int 10)) (mC (.int 17))) (mC (.int 3))) (mAc (mAdd (mPow (mC (.int 10)) (mC (.int 40))) (mC (.int 121))) mA0)))) mA0)))) mNx) (mRet (mAdd (mC (.int 1)) (mCall (some 0) S_law_take (mAc (mVar 0) (mAc (mCall (some 0) S_law_pick (mAc (mVar 0) (mAc (mLst (mAc (mC (.int 1)) (mAc (mC (.int 3)) (mAc (mC (.int 9)) mA0)))) mA0))) mA0))))))
def S_law_count : Mir := mDef (some 0) 1 S_law_countb
end
end Zk
namespace Zk
noncomputable section
open PySem PySem.Spec PyProof.Rows L2
/-- a list of draws -/
def dr (s : List Int) : D := .lst (s.map D.int)
@[simp] theorem imm_dr (s : List Int) : imm (dr s) = false := by simp [dr]
@[simp] theorem flat_dr (s : List Int) : flat (dr s) = true := by simp [dr]
/-- what is drawn -/
def dv (s : List Int) (n : Int) : Int := s.getLastD 0 % n
theorem dv_nn {s : List Int} {n : Int} (h : 0 < n) : 0 ≤ dv s n := Int.emod_nonneg _ (by omega)
theorem dv_lt {s : List Int} {n : Int} (h : 0 < n) : dv s n < n := Int.emod_lt_of_pos _ h
theorem take_eq (s : List Int) (n : Int) (h : 0 < n) : S_law_take [dr s, .int n] = some (.int (dv s n), 9, dr s.dropLast) := by
  have go : W (S_law_take [dr s, .int n]) fun r => r = (.int (dv s n), 9, dr s.dropLast) := by
    rcases List.eq_nil_or_concat s with e | ⟨xs, x, e⟩
    · subst e
      simp [S_law_take, S_law_takeb, ent0_def, dr, dv]
    · subst e
      simp [S_law_take, S_law_takeb, ent0_def, dr, dv, h]
      omega
  obtain ⟨r, e, rfl⟩ := go
  exact e
@[simp ↓, simp] theorem W_take {s : List Int} {n : Int} {Q : D × Nat × D → Prop} (h : 0 < n) : W (S_law_take [dr s, .int n]) Q ↔ Q (.int (dv s n), 9, dr s.dropLast) := W.eq (take_eq s n h)
/-- a thing picked -/
def pk {α : Type} (s : List Int) (xs : List α) (h : xs ≠ []) : α := xs[(dv s xs.length).toNat]'(by
  have h1 : 0 < xs.length := List.length_pos_iff.mpr h
  have := dv_lt (s := s) (n := xs.length) (by omega)
  have := dv_nn (s := s) (n := xs.length) (by omega)
  omega)
theorem pk_mem {α : Type} {s : List Int} {xs : List α} {h : xs ≠ []} : pk s xs h ∈ xs := List.getElem_mem _
theorem pk_at {α : Type} {s : List Int} {xs : List α} {h : xs ≠ []} : atI xs (dv s xs.length) = some (pk s xs h) := by
  have h1 : 0 < xs.length := List.length_pos_iff.mpr h
  have a := dv_lt (s := s) (n := xs.length) (by omega)
  have b := dv_nn (s := s) (n := xs.length) (by omega)
  unfold atI
  rw [ixN_ok b a]
  unfold pk
  rw [Option.bind_some, List.getElem?_eq_getElem]
theorem pick_eq {d : D} {xs : List D} (hd : d = .lst xs ∨ d = .tup xs) (s : List Int) (h : xs ≠ []) (i : imm (pk s xs h) = true) : S_law_pick [dr s, d] = some (pk s xs h, 9, dr s.dropLast) := by
  have h1 : 0 < (xs.length : Int) := by have := List.length_pos_iff.mpr h; omega
  have go : W (S_law_pick [dr s, d]) fun r => r = (pk s xs h, 9, dr s.dropLast) := by
    rcases hd with rfl | rfl
    · simp (disch := first | assumption | (simp; done) | omega) [S_law_pick, S_law_pickb, ent0_def, gIxd, gIx, dem1, pk_at (h := h), i]
    · simp (disch := first | assumption | (simp; done) | omega) [S_law_pick, S_law_pickb, ent0_def, gIxd, gIx, dem1, pk_at (h := h), i]
  obtain ⟨r, e, rfl⟩ := go
  exact e
theorem pk_map {α β : Type} {s : List Int} {xs : List α} {f : α → β} {h : xs ≠ []} {h' : xs.map f ≠ []} : pk s (xs.map f) h' = f (pk s xs h) := by
  unfold pk
  simp
@[simp ↓, simp] theorem W_pickL {s : List Int} {xs : List D} {Q : D × Nat × D → Prop} (h : xs ≠ []) (hi : imms xs = true) : W (S_law_pick [dr s, .lst xs]) Q ↔ Q (pk s xs h, 9, dr s.dropLast) := W.eq (pick_eq (.inl rfl) s h (by
  rw [imms_all, List.all_eq_true] at hi
  exact hi _ pk_mem))
@[simp ↓, simp] theorem W_pickT {s : List Int} {xs : List D} {Q : D × Nat × D → Prop} (h : xs ≠ []) (hi : imms xs = true) : W (S_law_pick [dr s, .tup xs]) Q ↔ Q (pk s xs h, 9, dr s.dropLast) := W.eq (pick_eq (.inr rfl) s h (by
  rw [imms_all, List.all_eq_true] at hi
  exact hi _ pk_mem))
theorem draws_spec (ns : List Int) (many : Int) (h0 : 0 ≤ many) (h : many ≤ 1000000) : W (S_law_draws [.scr ns, .int many]) fun r => ∃ s, r = (dr s, 9, .non) := by
  have hB : (1 : Int).natAbs < big := big0 (by decide)
  have h2 : cutD (ns.map D.int) none (some 63) = (ns.map D.int).take 63 := cut_to _ 63
  have h7 : (1 : Int) * 2 ^ (7200 : Int).toNat = B72 := by rw [Int.one_mul]; rfl
  have p7 := B72_pos
  unfold S_law_draws S_law_drawsb
  rw [W_mDef]
  -- cells
  refine W_seqJ (J := fun E => ∃ cs : List Int, (∀ c ∈ cs, 0 ≤ c ∧ c < B72) ∧ cs.length ≤ 63 ∧ E = [some (.scr ns, 0), some (.int many, 0), some (.lst (cs.map D.int), 9), none, none, none, none, none, none]) ?_ ?_
  · simp [ent0_def, W_lc0, h2, ← List.map_take]
    refine W_lcX (p := fun _ => true) (ρ := fun x => .int (x % B72)) (fun x => by simp) (by simp [sizeL]; omega) (fun x hx => ?_) fun acc ha hu => ?_
    · have e7 : (2 : Int) ^ 7200 = B72 := rfl
      simp [e7, p7]
    · simp [ha, hu]
      refine ⟨(ns.take 63).map (· % B72), ?_, ?_, ?_⟩
      · intro c hc
        obtain ⟨x, hx, rfl⟩ := List.mem_map.mp hc
        exact ⟨Int.emod_nonneg _ (by omega), Int.emod_lt_of_pos _ p7⟩
      · simp; omega
      · simp [List.filter_eq_self.mpr, Function.comp_def]
  rintro _ ⟨cs, hcs, hl, rfl⟩
  refine W_seqJ (J := fun E => ∃ cs : List Int, cs ≠ [] ∧ (∀ c ∈ cs, 0 ≤ c ∧ c < B72) ∧ cs.length ≤ 63 ∧ E = [some (.scr ns, 0), some (.int many, 0), some (.lst (cs.map D.int), 9), none, none, none, none, none, none]) ?_ ?_
  · simp
    refine ⟨fun e => ⟨by simp [e, sizeL], [0], by simp, by simp [p7], by simp, ?_⟩, fun e => ⟨cs, e, hcs, hl, rfl⟩⟩
    simp [e, upl]
  rintro _ ⟨cs, hne, hcs, hl, rfl⟩
  have hlen : 0 < cs.length := List.length_pos_iff.mpr hne
  simp
  refine ⟨⟨by omega, by omega⟩, ?_⟩
  refine W_forR (I := fun k E => ∃ (ls ds : List Int) (u v w : Option (D × Nat)), (∀ c ∈ ls, 0 ≤ c ∧ c < B72) ∧ ls.length = cs.length ∧ ds.length ≤ k ∧ E = [some (.scr ns, 0), some (.int many, 0), some (.lst (cs.map D.int), 9), none, some (.lst (ls.map D.int), 9), some (.lst (ds.map D.int), 9), u, v, w])
    ⟨cs, [], none, none, none, hcs, rfl, by simp, by simp⟩ (fun k E hk hE => ?_) fun E hE => ?_
  · obtain ⟨ls, ds, u, v, w, hls, hll, hds, rfl⟩ := hE
    have hp0 : 0 ≤ (k : Int) % cs.length := Int.emod_nonneg _ (by omega)
    have hp1 : (k : Int) % cs.length < cs.length := Int.emod_lt_of_pos _ (by omega)
    obtain ⟨c, hc, cm, _, _⟩ := atI_ok hp0 hp1
    obtain ⟨l, hl1, lm, _, lN⟩ := atI_ok (xs := ls) hp0 (by omega)
    have c1 := hcs c cm
    have l1 := hls l lm
    have b1 : c.natAbs < big := B72_big c1.1 (by omega)
    have b2 : (48271 : Int).natAbs < big := big0 (by decide)
    have b3 : (k : Int).natAbs < big := big0 (by omega)
    have b4 : (69621 : Int).natAbs < big := big0 (by decide)
    have sz : ds.length < sizeLine := by rw [sizeL]; omega
    have m1 : ((c * 48271 + (k : Int) * 69621 + 11) % 2147483647).natAbs < big := by
      have := Int.emod_nonneg (c * 48271 + (k : Int) * 69621 + 11) (show (2147483647 : Int) ≠ 0 by decide)
      have := Int.emod_lt_of_pos (c * 48271 + (k : Int) * 69621 + 11) (show (0 : Int) < 2147483647 by decide)
      exact big0 (by omega)
    have b3 : k < big := nb (by omega)
    simp [hlen, hc, hl1, lN, b1, b3, sz, m1]
    refine ⟨fun _ => ⟨fun _ => ⟨ls.set ((k : Int) % cs.length).toNat (l / 1000), ?_, by simpa using hll, ds ++ [l % 1000], by simp; omega, by simp [List.map_set], by simp⟩, fun _ => ⟨ls, hls, hll, ds ++ [_], by simp; omega, rfl, by simp; rfl⟩⟩, fun _ => ⟨ls, hls, hll, ds ++ [_], by simp; omega, rfl, by simp; rfl⟩⟩
    intro x hx
    rcases List.mem_or_eq_of_mem_set hx with hx | rfl
    · exact hls x hx
    · omega
  · obtain ⟨ls, ds, u, v, w, hls, hll, hds, rfl⟩ := hE
    simp
    exact ⟨ds.reverse, by simp [dr]⟩
end
end Zk
namespace Zk
noncomputable section
open PySem PySem.Spec PyProof.Rows L2
/-- what _law_same takes, by its depth -/
def pl : Nat → D → Bool
  | _, .non => true
  | _, .bl _ => true
  | _, .int _ => true
  | _, .str x => PyData.strOk x
  | n + 1, .tup xs => xs.all (pl n) && decide (xs.length < 16777216)
  | n + 1, .lst xs => xs.all (pl n) && decide (xs.length < 16777216)
  | _, _ => false
theorem same_scalar (n : Nat) (a : D) (h : a = .non ∨ (∃ b, a = .bl b) ∨ (∃ i, a = .int i) ∨ ∃ x, a = .str x ∧ PyData.strOk x = true) : W (S_law_same (n + 1) [a, a]) fun r => r = (.bl true, 9, .non) := by
  unfold S_law_same S_law_sameb
  rcases h with rfl | ⟨b, rfl⟩ | ⟨i, rfl⟩ | ⟨x, rfl, hx⟩
  · simp [ent0_def, gIsi, tyOf, isi, gNe, dat, gIsN, isNon, gEq, sizeL]
  · simp [ent0_def, gIsi, tyOf, isi, gNe, dat, gIsN, isNon, gEq, sizeL]
  · simp [ent0_def, gIsi, tyOf, isi, gNe, dat, gIsN, isNon, gEq, sizeL]
  · simp [ent0_def, gIsi, tyOf, isi, gNe, dat, gIsN, isNon, gEq, sizeL, hx, deq, py, PyData.eqv]

theorem same_seq (n : Nat) (a : D) (xs : List D) (ha : a = .tup xs ∨ a = .lst xs) (hl : xs.length < 16777216) (ih : ∀ x ∈ xs, S_law_same n [x, x] = some (.bl true, 9, .non)) : W (S_law_same (n + 1) [a, a]) fun r => r = (.bl true, 9, .non) := by
  unfold S_law_same S_law_sameb
  have dt : ∀ m : Nat, (dat 64 (.lst ((List.replicate m ()).map fun _ => D.bl true))) = true := fun m => by simp [dat]
  have step : ∀ (E0 : Ev) (k : Nat) (b : D), (b = .tup xs ∨ b = .lst xs) → k < xs.length → E0 = [some (b, 0), some (b, 0), none] → W (tgV 2 (.int (0 + (k : Int))) E0) fun E1 => W (mYes E1) fun q =>
      IfB q.1 (True ∧ W (mCall none (S_law_same n) (mAc (mIxd (mVar 0) (mVar 2)) (mAc (mIxd (mVar 1) (mVar 2)) mA0)) q.2) fun r => W (tk r.2 r.1) fun t => t.1 = .bl true ∧ wipeE t.2.2 [2] = E0) (False ∧ wipeE q.2 [2] = E0) := by
    intro E0 k b hb hk e
    subst e
    obtain ⟨x, hx, xm, _, _⟩ := atI_ok (xs := xs) (i := (k : Int)) (by omega) (by omega)
    have e1 := ih x xm
    have w1 : ∀ {Q : D × Nat × D → Prop}, W (S_law_same n [x, x]) Q ↔ Q (.bl true, 9, .non) := fun {Q} => W.eq e1
    rcases hb with rfl | rfl
    · by_cases c1 : imm x = true
      · simp [hx, c1, w1]
      · simp at c1
        simp [hx, c1, w1]
    · by_cases c1 : imm x = true
      · simp [hx, c1, w1]
      · simp at c1
        simp [hx, c1, w1]
  have fin : ∀ (b : D) (Q : List (D × Nat) × Ev → Prop), (b = .tup xs ∨ b = .lst xs) → (∀ acc : List (D × Nat), acc.map (·.1) = List.replicate xs.length (.bl true) → uni acc = 9 → Q (acc, [some (b, 0), some (b, 0), none])) →
      W (lcM (tgV 2) mYes (mCall none (S_law_same n) (mAc (mIxd (mVar 0) (mVar 2)) (mAc (mIxd (mVar 1) (mVar 2)) mA0))) [2] (rng 0 xs.length) [some (b, 0), some (b, 0), none] []) Q := by
    intro b Q hb k
    have e : rng 0 xs.length = (List.range xs.length).map fun k => D.int (0 + (k : Nat)) := rfl
    rw [e]
    refine W_lcX (p := fun _ => true) (ρ := fun _ => .bl true) (fun x => by simp) (by simp [sizeL]; omega) (fun x hx => ?_) fun acc h1 h2 => k acc ?_ h2
    · have := step _ x b hb (by simpa using hx) rfl
      refine this.mono fun E1 h => h.mono fun q h => ?_
      cases hq : q.1
      · rw [hq] at h; rw [IfB_f] at h ⊢; exact h.1.elim
      · rw [hq] at h; rw [IfB_t] at h ⊢; exact ⟨rfl, h.2⟩
    · rw [h1, List.filter_eq_self.mpr (by simp)]
      simp [List.eq_replicate_iff]
  have rk : rgOk (xs.length : Int) := ⟨by omega, by omega⟩
  rcases ha with rfl | rfl
  · simp [ent0_def, gIsi, tyOf, isi, gNe, dat, W_lc0, rk]
    refine fin _ _ (.inl rfl) fun acc h1 h2 => ?_
    simp [h1, h2, gInA, gIn, dat]
  · simp [ent0_def, gIsi, tyOf, isi, gNe, dat, W_lc0, rk]
    refine fin _ _ (.inr rfl) fun acc h1 h2 => ?_
    simp [h1, h2, gInA, gIn, dat]
theorem same_eq : ∀ (n : Nat) (a : D), pl n a = true → S_law_same (n + 1) [a, a] = some (.bl true, 9, .non) := by
  have sc : ∀ (n : Nat) (a : D), (a = .non ∨ (∃ b, a = .bl b) ∨ (∃ i, a = .int i) ∨ ∃ x, a = .str x ∧ PyData.strOk x = true) → S_law_same (n + 1) [a, a] = some (.bl true, 9, .non) := fun n a h => by
    obtain ⟨r, e, rfl⟩ := same_scalar n a h
    exact e
  intro n
  induction n with
  | zero =>
    intro a h
    cases a with
    | non => exact sc 0 _ (.inl rfl)
    | bl b => exact sc 0 _ (.inr (.inl ⟨b, rfl⟩))
    | int b => exact sc 0 _ (.inr (.inr (.inl ⟨b, rfl⟩)))
    | str b => exact sc 0 _ (.inr (.inr (.inr ⟨b, rfl, by simpa [pl] using h⟩)))
    | _ => simp [pl] at h
  | succ n ih =>
    intro a h
    cases a with
    | non => exact sc _ _ (.inl rfl)
    | bl b => exact sc _ _ (.inr (.inl ⟨b, rfl⟩))
    | int b => exact sc _ _ (.inr (.inr (.inl ⟨b, rfl⟩)))
    | str b => exact sc _ _ (.inr (.inr (.inr ⟨b, rfl, by simpa [pl] using h⟩)))
    | tup xs =>
      simp only [pl, Bool.and_eq_true, decide_eq_true_eq, List.all_eq_true] at h
      obtain ⟨r, e, rfl⟩ := same_seq (n + 1) _ xs (.inl rfl) h.2 fun x hx => ih x (h.1 x hx)
      exact e
    | lst xs =>
      simp only [pl, Bool.and_eq_true, decide_eq_true_eq, List.all_eq_true] at h
      obtain ⟨r, e, rfl⟩ := same_seq (n + 1) _ xs (.inr rfl) h.2 fun x hx => ih x (h.1 x hx)
      exact e
    | _ => simp [pl] at h
theorem W_same {a : D} {Q : D × Nat × D → Prop} (h : pl 7 a = true) : W (S_law_same 8 [a, a]) Q ↔ Q (.bl true, 9, .non) := W.eq (same_eq 7 a h)
end
end Zk
namespace Zk
noncomputable section
open PySem PySem.Spec PyProof.Rows L2
theorem imms_map' {α : Type} {f : α → D} (h : ∀ x, imm (f x) = true) (xs : List α) : imms (xs.map f) = true := imms_map f h xs
theorem any_int (fs : List Int) (x : Int) : ((fs.map D.int).any fun z => deq z (.int x)) = decide (x ∈ fs) := by
  induction fs with
  | nil => simp
  | cons a fs ih =>
    simp only [List.map_cons, List.any_cons, ih, deq_int, List.mem_cons]
    by_cases h : a = x
    · simp [h]
    · simp [h, Ne.symm h, eq_comm]
theorem all_dat_int (fs : List Int) (n : Nat) : (fs.map D.int).all (dat n) = true := by
  rw [List.all_map, List.all_eq_true]
  intro x _
  cases n <;> simp [dat]
@[simp] theorem dat_int (n : Nat) (i : Int) : dat n (.int i) = true := by cases n <;> simp [dat]
@[simp] theorem gInA_ints (neg : Bool) (x : Int) (fs : List Int) : gInA neg [.int x, .lst (fs.map D.int)] = some (.bl (decide (x ∈ fs) ^^ neg), 9) := by
  unfold gInA
  simp only [gIn]
  rw [if_pos ⟨dat_int _ _, by simp only [dat]; exact all_dat_int fs 63⟩, any_int]
@[simp] theorem gSrt1_ints (ns : List Int) : gSrt1 [.lst (ns.map D.int)] = some (.lst ((srt ns).map D.int), 9) := by simp [gSrt1, gSrtIP, gSrtI]
theorem srt_mem {ns : List Int} {x : Int} : x ∈ srt ns ↔ x ∈ ns := (srt_perm ns).mem_iff
theorem srt_nodup {ns : List Int} : (srt ns).Nodup ↔ ns.Nodup := (srt_perm ns).nodup_iff
theorem srt_len {ns : List Int} : (srt ns).length = ns.length := (srt_perm ns).length_eq
theorem pk_int {s : List Int} {ts : List Int} {h : ts ≠ []} {h' : ts.map D.int ≠ []} : pk s (ts.map D.int) h' = .int (pk s ts h) := pk_map
/-- the greatest count that is drawn -/
def cMax : Int := 10 ^ 40 + 121
theorem count_spec (s : List Int) : W (S_law_count [dr s]) fun r => ∃ (c : Int) (s' : List Int), r = (.int c, 9, dr s') ∧ 1 ≤ c ∧ c ≤ cMax := by
  unfold S_law_count S_law_countb
  have e3 : cMax = 10000000000000000000000000000000000000121 := rfl
  have v0 := dv_nn (s := s) (n := 9) (by decide)
  simp (disch := first | assumption | (simp; done) | omega) [ent0_def, dem1, uni]
  refine ⟨fun h => ?_, fun h => ?_⟩
  · have pm := pk_mem (s := s.dropLast) (xs := [D.int 1000000007, .int 100000000000000003, .int 10000000000000000000000000000000000000121]) (h := by simp)
    generalize pk s.dropLast _ _ = q at pm ⊢
    simp at pm
    rcases pm with rfl | rfl | rfl
    · simp [e3]; exact ⟨_, ⟨rfl, _, rfl⟩, by decide, by decide⟩
    · simp [e3]; exact ⟨_, ⟨rfl, _, rfl⟩, by decide, by decide⟩
    · simp [e3]; exact ⟨_, ⟨rfl, _, rfl⟩, by decide, by decide⟩
  · have pm := pk_mem (s := s.dropLast) (xs := [D.int 1, .int 3, .int 9]) (h := by simp)
    generalize pk s.dropLast _ _ = q at pm ⊢
    simp at pm
    have w0 : ∀ m : Int, 0 < m → 0 ≤ dv s.dropLast.dropLast m ∧ dv s.dropLast.dropLast m < m := fun m h => ⟨dv_nn h, dv_lt h⟩
    rcases pm with rfl | rfl | rfl
    · have := w0 1 (by decide)
      simp (disch := first | assumption | (simp; done) | omega)
      exact ⟨_, ⟨rfl, _, rfl⟩, by omega, by rw [e3]; omega⟩
    · have := w0 3 (by decide)
      simp (disch := first | assumption | (simp; done) | omega)
      exact ⟨_, ⟨rfl, _, rfl⟩, by omega, by rw [e3]; omega⟩
    · have := w0 9 (by decide)
      simp (disch := first | assumption | (simp; done) | omega)
      exact ⟨_, ⟨rfl, _, rfl⟩, by omega, by rw [e3]; omega⟩
/-- a pair of ints -/
def pr (p : Int × Int) : D := .tup [.int p.1, .int p.2]
@[simp] theorem imm_pr (p : Int × Int) : imm (pr p) = true := by simp [pr]
@[simp] theorem imms_prs (ps : List (Int × Int)) : imms (ps.map pr) = true := imms_map' imm_pr ps
@[simp] theorem upl_pr {n m : Nat} {d : D} {p : Int × Int} : upl n d (pr p) m = n := upl_imm (imm_pr p)
end
end Zk
namespace Zk
noncomputable section
open PySem PySem.Spec PyProof.Rows L2
def S_law_truthb : Fs := (mRet (mOp gSum (mAc (mLc (mSq (mVar 0)) [2] (tgV 2) (mB (mEq (mIxd (mVar 2) (mC (.int 0))) (mVar 1))) (mIxd (mVar 2) (mC (.int 1)))) mA0)))
def S_law_truth : Mir := mDef none 3 S_law_truthb
def getI (m : List (Int × Int)) (k : Int) : Option Int := (m.find? fun p => decide (p.1 = k)).map (·.2)
def putI (m : List (Int × Int)) (k v : Int) : List (Int × Int) := if (m.any fun p => decide (p.1 = k)) = true then m.map (fun p => if p.1 = k then (p.1, v) else p) else m ++ [(k, v)]
def dI (m : List (Int × Int)) : D := .dK (m.map fun p => (Sum.inl p.1, .int p.2))
theorem dI_nil : D.dK [] = dI [] := rfl
@[simp] theorem imm_dI (m : List (Int × Int)) : imm (dI m) = false := by simp [dI]
@[simp] theorem flat_dI (m : List (Int × Int)) : flat (dI m) = true := by
  simp only [dI, flat, List.map_map]
  exact imms_map' (f := fun p : Int × Int => D.int p.2) (fun _ => by simp) m
@[simp] theorem isDct_dI (m : List (Int × Int)) : isDct (dI m) = true := rfl
theorem valD_dI (m : List (Int × Int)) (k : Int) : valD (m.map fun p => ((Sum.inl p.1 : Key), D.int p.2)) (Sum.inl k) = (getI m k).map D.int := by
  unfold valD getI
  induction m with
  | nil => rfl
  | cons p m ih =>
    simp only [List.map_cons, List.find?_cons]
    by_cases h : p.1 = k
    · simp [h]
    · simp only [h, Sum.inl.injEq, decide_false]
      simpa using ih
theorem putD_dI (m : List (Int × Int)) (k v : Int) : putD (m.map fun p => ((Sum.inl p.1 : Key), D.int p.2)) (Sum.inl k) (.int v) = (putI m k v).map fun p => ((Sum.inl p.1 : Key), D.int p.2) := by
  have e : ((m.map fun p => ((Sum.inl p.1 : Key), D.int p.2)).any fun kv => decide (kv.1 = Sum.inl k)) = m.any fun p => decide (p.1 = k) := by
    rw [List.any_map]
    congr 1
    funext p
    simp
  unfold putD putI
  rw [e]
  split
  · rw [List.map_map, List.map_map]
    apply List.map_congr_left
    intro p hp
    simp only [Function.comp_apply, Sum.inl.injEq]
    split <;> rfl
  · simp
@[simp] theorem look_dI (m : List (Int × Int)) (k : Int) : look (dI m) (.int k) = some ((getI m k).map D.int) := by
  simp only [dI, look, keyOf, Option.map_some, valD_dI]
@[simp] theorem gGet2_dI (m : List (Int × Int)) (k x : Int) : gGet2 [dI m, .int k, .int x] = some (.int ((getI m k).getD x), 0) := by
  simp only [gGet2, imm_int, look_dI, Option.map_some, if_true]
  cases getI m k <;> rfl
@[simp] theorem gIxd_dI (m : List (Int × Int)) (k : Int) : gIxd [dI m, .int k] = (getI m k).map fun v => (.int v, 0) := by
  have e : gIxd [dI m, .int k] = gDg [dI m, .int k] := rfl
  rw [e]
  simp only [gDg, look_dI, Option.bind_some]
  cases getI m k <;> rfl
@[simp] theorem gInA_dI (neg : Bool) (m : List (Int × Int)) (k : Int) : gInA neg [.int k, dI m] = some (.bl ((getI m k).isSome ^^ neg), 9) := by
  have e : gInA neg [.int k, dI m] = gInD neg [.int k, dI m] := rfl
  rw [e]
  simp only [gInD, look_dI, Option.map_some]
  cases getI m k <;> rfl
@[simp] theorem putOf_dI (m : List (Int × Int)) (n nv : Nat) (k v : Int) : putOf (dI m, n + 1) (.int k) (.int v) nv = if m.length < sizeLine then some (dI (putI m k v), n + 1) else none := by
  have e : putOf (dI m, n + 1) (.int k) (.int v) nv = (keyOf (.int k)).bind fun k' => if (m.map fun p => ((Sum.inl p.1 : Key), D.int p.2)).length < sizeLine then some (.dK (putD (m.map fun p => ((Sum.inl p.1 : Key), D.int p.2)) k' (.int v)), updl (n + 1) (m.map fun p => ((Sum.inl p.1 : Key), D.int p.2)) (.int v)) else none := rfl
  rw [e]
  have f : flat (dI m) = true := flat_dI m
  have f2 : imms ((m.map fun p => ((Sum.inl p.1 : Key), D.int p.2)).map (·.2)) = true := f
  simp only [keyOf, Option.bind_some, List.length_map, putD_dI, updl_int, f2, if_true]
  rfl
theorem keyI_dI (m : List (Int × Int)) : keyI (m.map fun p => ((Sum.inl p.1 : Key), D.int p.2)) = some (m.map (·.1)) := by
  induction m with
  | nil => rfl
  | cons p m ih => simp [keyI, ih]
@[simp] theorem gSrt1_dI (m : List (Int × Int)) : gSrt1 [dI m] = some (.lst ((srt (m.map (·.1))).map D.int), 9) := by
  have e : gSrt1 [dI m] = gSrtD [.dK (m.map fun p => ((Sum.inl p.1 : Key), D.int p.2))] := rfl
  rw [e]
  simp only [gSrtD, keyI_dI, Option.map_some]
theorem get_put (m : List (Int × Int)) (k v j : Int) : getI (putI m k v) j = if j = k then some v else getI m j := by
  unfold putI
  split
  · rename_i h
    unfold getI
    induction m with
    | nil => simp at h
    | cons p m ih =>
      simp only [List.map_cons, List.find?_cons]
      by_cases h1 : p.1 = k
      · by_cases h2 : j = k
        · subst h2; simp [h1]
        · have : ¬ p.1 = j := fun e => h2 (e ▸ h1)
          simp only [h1, if_true, if_neg h2]
          have h3 : ¬ k = j := fun e => h2 e.symm
          simp only [h3, decide_false]
          by_cases h4 : (m.any fun p => decide (p.1 = k)) = true
          · have := ih h4
            rw [if_neg h2] at this
            exact this
          · have e : m.map (fun p => if p.1 = k then (p.1, v) else p) = m := by
              conv => rhs; rw [← List.map_id m]
              apply List.map_congr_left
              intro q hq
              rw [if_neg]; rfl
              intro e
              exact h4 (List.any_eq_true.mpr ⟨q, hq, by simpa using e⟩)
            rw [e]
      · have hm : (m.any fun p => decide (p.1 = k)) = true := by simpa [h1] using h
        have := ih hm
        simp only [if_neg h1]
        by_cases h2 : p.1 = j
        · have : ¬ j = k := fun e => h1 (h2.trans e)
          simp [h2, this]
        · simp only [h2, decide_false]
          exact this
  · rename_i h
    unfold getI
    rw [List.find?_append]
    have hn : ∀ p ∈ m, ¬ p.1 = k := fun p hp e => h (List.any_eq_true.mpr ⟨p, hp, by simpa using e⟩)
    by_cases h2 : j = k
    · subst h2
      have : m.find? (fun p => decide (p.1 = j)) = none := by
        rw [List.find?_eq_none]
        intro p hp
        simpa using hn p hp
      simp [this]
    · have : ¬ k = j := fun e => h2 e.symm
      simp [h2, this]
theorem put_keys (m : List (Int × Int)) (k v : Int) : (putI m k v).map (·.1) = if k ∈ m.map (·.1) then m.map (·.1) else m.map (·.1) ++ [k] := by
  unfold putI
  have e : ((m.any fun p => decide (p.1 = k)) = true) ↔ k ∈ m.map (·.1) := by
    rw [List.any_eq_true, List.mem_map]
    constructor
    · rintro ⟨p, hp, h⟩; exact ⟨p, hp, by simpa using h⟩
    · rintro ⟨p, hp, h⟩; exact ⟨p, hp, by simpa using h⟩
  by_cases h : k ∈ m.map (·.1)
  · rw [if_pos (e.mpr h), if_pos h, List.map_map]
    apply List.map_congr_left
    intro p hp
    simp only [Function.comp_apply]
    split <;> rfl
  · rw [if_neg (fun z => h (e.mp z)), if_neg h]
    simp
theorem get_none {m : List (Int × Int)} {k : Int} : getI m k = none ↔ k ∉ m.map (·.1) := by
  unfold getI
  rw [Option.map_eq_none_iff, List.find?_eq_none]
  constructor
  · intro h hm
    obtain ⟨p, hp, e⟩ := List.mem_map.mp hm
    exact h p hp (by simpa using e)
  · intro h p hp e
    exact h (List.mem_map.mpr ⟨p, hp, by simpa using e⟩)
theorem get_some {m : List (Int × Int)} {k : Int} (h : k ∈ m.map (·.1)) : ∃ v, getI m k = some v := by
  cases e : getI m k with
  | none => exact absurd h (get_none.mp e)
  | some v => exact ⟨v, rfl⟩
/-- the sum of the counts of a key -/
def ksum (st : List (Int × Int)) (k : Int) : Int := ((st.filter fun p => decide (p.1 = k)).map (·.2)).sum
@[simp] theorem ksum_nil (k : Int) : ksum [] k = 0 := rfl
theorem ksum_app (a b : List (Int × Int)) (k : Int) : ksum (a ++ b) k = ksum a k + ksum b k := by simp [ksum]
theorem ksum_one (p : Int × Int) (k : Int) : ksum [p] k = if p.1 = k then p.2 else 0 := by
  unfold ksum
  by_cases h : p.1 = k <;> simp [h]
/-- the counts of a stream, ascending, without 0 -/
def cof (st : List (Int × Int)) : List (Int × Int) := ((srt (st.map (·.1)).eraseDups).filter fun k => decide (ksum st k ≠ 0)).map fun k => (k, ksum st k)
def keysI (m : List (Int × Int)) : List Int := m.map (·.1)
theorem keysI_put (m : List (Int × Int)) (k v : Int) : keysI (putI m k v) = if k ∈ keysI m then keysI m else keysI m ++ [k] := put_keys m k v
theorem nodup_eraseDups (l : List Int) : l.eraseDups.Nodup := by
  generalize hn : l.length = n
  induction n using Nat.strongRecOn generalizing l with
  | ind n ih =>
    cases l with
    | nil => simp
    | cons a l =>
      rw [List.eraseDups_cons, List.nodup_cons]
      have hl : (l.filter fun b => !b == a).length < n := by
        have := List.length_filter_le (fun b => !b == a) l
        simp at hn
        omega
      refine ⟨fun h => ?_, ih _ hl _ rfl⟩
      rw [List.mem_eraseDups] at h
      simp at h
theorem srt_perm_eq {a b : List Int} (h : a.Perm b) : srt a = srt b := srt_uniq ((srt_perm a).trans (h.trans (srt_perm b).symm)) (srt_pair a) (srt_pair b)
theorem gSum_ints (ns : List Int) : gSum [.lst (ns.map D.int)] = some (.int ns.sum, 9) := by simp [gSum]
theorem law_truth_eq {st : List (Int × Int)} {k : Int} (hl : st.length < 16777216) : S_law_truth [.tup (st.map pr), .int k] = some (.int (ksum st k), 9, .non) := by
  have go : W (S_law_truth [.tup (st.map pr), .int k]) fun r => r = (.int (ksum st k), 9, .non) := by
    unfold S_law_truth S_law_truthb
    simp [ent0_def, W_lc0]
    refine W_lcX (p := fun p => decide (p.1 = k)) (ρ := fun k => D.int k.2) (fun x => by simp) (by simp [sizeL]; omega) (fun p hp => ?_) fun acc ha hu => ?_
    · simp [pr, atI, ixN]
    · have e : acc.map (·.1) = ((st.filter fun p => decide (p.1 = k)).map (·.2)).map D.int := by
        rw [ha, List.map_map]; rfl
      simp [e, hu, gSum_ints, ksum, -List.map_map]
  obtain ⟨r, e, rfl⟩ := go
  exact e
end
end Zk
namespace Zk
open PySem PySem.Spec PyProof.Rows L2
section
variable {κ : Type} [DecidableEq κ]
@[simp] theorem valD_nil (k : κ) : valD ([] : List (κ × D)) k = none := rfl
end
@[simp] theorem keyOf_int (i : Int) : keyOf (.int i) = some (.inl i) := rfl
@[simp] theorem look_dK (kds : List (Key × D)) (k : Int) : look (.dK kds) (.int k) = some (valD kds (.inl k)) := rfl
@[simp] theorem look_dT (kds : List (List Key × D)) (ks : List D) : look (.dT kds) (.tup ks) = (keysOf ks).map fun k => valD kds k := rfl
@[simp] theorem keysOf_nil : keysOf [] = some [] := rfl
@[simp] theorem keysOf_c (i : Int) (ds : List D) : keysOf (.int i :: ds) = (keysOf ds).map fun ks => .inl i :: ks := rfl
@[simp] theorem gInA_dK (neg : Bool) (x : D) (kds : List (Key × D)) : gInA neg [x, .dK kds] = (look (.dK kds) x).map fun o => (.bl (o.isSome ^^ neg), 9) := rfl
@[simp] theorem gInA_dT (neg : Bool) (x : D) (kds : List (List Key × D)) : gInA neg [x, .dT kds] = (look (.dT kds) x).map fun o => (.bl (o.isSome ^^ neg), 9) := rfl
theorem W_seqE {s t : Fs} {E E1 : Ev} {Q : Fl × Ev → Prop} (h : W (s E) fun p => p.1 = .nx ∧ p.2 = E1) (k : W (t E1) Q) : W (mSeq s t E) Q := W_seqJ (fun E => E = E1) h fun _ e => e ▸ k
end Zk
namespace Zk
open PySem PySem.Spec PyProof.Rows L2
section
variable {K : PySem.W.Frag} {Z Z' Zf Z0 Z1 : Addr → Prop} {H H' H0 H1 : Hp} {σ : L2.St} {E E' E1 : Ev} {R R' R0 R1 : Rs}
/-- a slot's thing is laid aside .. -/
theorem S.lift (s : S K Z H σ E R) (x : Nat) : S K Z H σ (E.set x none) (put R x []) ∧ Step Z H (ow R) Z H (ow (put R x [])) ∧ ∀ a ∈ R x, ¬ ow (put R x []) a := by
  refine ⟨s.dropSlot, ⟨fun _ h => h, fun _ h => .inl h, fun _ _ h _ => h, fun a h => ?_, fun _ h => h⟩, fun a m z => ?_⟩
  · rcases ow_put h with h | h
    · simp at h
    · exact .inl h
  · obtain ⟨j, mj⟩ := z
    by_cases q : j = x
    · subst q; rw [put_same] at mj; simp at mj
    · rw [put_ne q] at mj; exact q (s.dj j x a mj m)
end
section
variable {X : Cx} {e e1 e2 : Expr} {fi fk fe : Fe} {pos px pt pt2 : PySem.Pos} {op : Operator} {f : Int → Int → Int} {w : List Nat}
end
section
variable {E : Ev} {fi fk fe : Fe} {x : Nat} {f : Int → Int → Int} {Qs : Fl × Ev → Prop} {Qe : Op × Ev → Prop}
end
end Zk
namespace Zk
open PySem PySem.Spec PyProof.Rows L2
section
variable {K : PySem.W.Frag} {Z Z' Zf Z0 Z1 : Addr → Prop} {H H' H0 H1 : Hp} {σ σ1 : L2.St} {E E' E1 : Ev} {R R' R0 R1 : Rs}
/-- x = y, y is given up -/
def mMov (i j : Nat) : Fs := fun E => (eg E j).bind fun p => if i < E.length then some (.nx, (E.set j none).set i (some p)) else none
theorem mov_of {i j : Nat} {De : Ends} (q : sOf K [i] (mMov i j) De σ H) : ∃ v, σ[j]? = some (some v) ∧ De.nx (σ.set i (some v)) H := by
  obtain ⟨Z, E, R, s, fl, E', e, q⟩ := q
  unfold mMov at e
  cases g : eg E j with
  | none => rw [g] at e; cases e
  | some p =>
  obtain ⟨d, n⟩ := p
  rw [g] at e
  simp only [Option.bind_some] at e
  split at e
  case isFalse => cases e
  rename_i hi
  cases e
  obtain ⟨v, ev, ov⟩ := s.slot j d n g
  refine ⟨v, ev, ?_⟩
  obtain ⟨s2, t2, f2⟩ := s.lift j
  have s3 := s2.setSlot (i := i) (by simpa using hi) ov (s.nd j) f2
  refine q _ Z H _ s3 ⟨fun _ h => h, fun _ h => .inl h, fun _ _ h _ => h, fun a h => ?_, fun _ h => h⟩ fun k hk => ?_
  · rcases ow_put h with h | h
    · exact .inl ⟨j, h⟩
    · exact t2.on a h
  · rw [List.getElem?_set_ne (fun c => hk (by simp [c]))]
end
section
variable {X : Cx} {e : Expr} {fi : Fe} {pos pos' px pt : PySem.Pos} {rest : List Stmt} {w : List Nat} {body : Fs}
theorem as_mov (i j : Nat) {x y : Str} (hN : X.N.Nodup) (hi : X.N[i]? = some x := by rfl) (hj : X.N[j]? = some y := by rfl) (hx : Loc X.env.scope x := by first | exact Or.inl rfl | exact Or.inr rfl) (hvis : Vis X.env.scope y := by first | exact Or.inl rfl | exact Or.inr (Or.inl rfl) | exact Or.inr (Or.inr rfl))
    (hd : (y == ("__debug__" : Str)) = false := by decide) (hcd : (y == ("__classdict__" : Str)) = false := by decide)
    (hs : swapsWith (.Name y px) (some (.Name x pos')) pos.line X.env = pure false := by rfl)
    (hf : X.fn x = true ∨ X.env.scope.names.lookup x = some .local := by first | exact .inl rfl | exact .inr rfl) : AS X (.Assign [.Name x pos'] (.Name y px) pos) [i] (mMov i j) :=
  PS.mono (ps_set hN hi hx (pe_var hj hvis hd hcd) hs hf) fun D σ H q => mov_of q
end
section
variable {E : Ev} {fi : Fe} {x c i j : Nat} {body : Fs} {Qs : Fl × Ev → Prop}
@[simp ↓] theorem W_mov : W (mMov i j E) Qs ↔ W (eg E j) fun p => i < E.length ∧ Qs (.nx, (E.set j none).set i (some p)) := by
  unfold mMov
  (repeat (first | exact Iff.rfl | (refine W_if1.trans (and_congr_right fun _ => ?_)) | (refine W_bind.trans (W_ext fun _ => ?_)) | exact W_some | exact W_map | exact W_if1))
end
end Zk
namespace Zk
noncomputable section
open PySem PySem.Spec PyProof.Rows L2
end
end Zk
namespace Zk
noncomputable section
open PySem PySem.Spec PyProof.Rows L2
@[simp] theorem gMul_rep (a : List D) (k : Int) : gMul [.lst a, .int k] = if -(2 ^ 63) ≤ k ∧ k < 2 ^ 63 ∧ a.length * k.toNat ≤ sizeLine then some (.lst (List.replicate k.toNat a).flatten, lev (List.replicate k.toNat a).flatten) else none := by simp [gMul]
theorem ksum_out {st : List (Int × Int)} {k : Int} (h : ∀ p ∈ st, p.1 ≠ k) : ksum st k = 0 := by
  unfold ksum
  rw [List.filter_eq_nil_iff.mpr (by simpa using h)]
  rfl
theorem cof_mem {st : List (Int × Int)} {p : Int × Int} : p ∈ cof st ↔ p.2 = ksum st p.1 ∧ p.2 ≠ 0 := by
  unfold cof
  constructor
  · intro h
    obtain ⟨k, hk, rfl⟩ := List.mem_map.mp h
    simp only [List.mem_filter, decide_eq_true_eq] at hk
    exact ⟨rfl, hk.2⟩
  · rintro ⟨h1, h2⟩
    refine List.mem_map.mpr ⟨p.1, ?_, by rw [← h1]⟩
    rw [List.mem_filter, srt_mem, List.mem_eraseDups]
    refine ⟨?_, by rw [← h1]; simpa using h2⟩
    by_cases h : p.1 ∈ st.map (·.1)
    · exact h
    · exfalso
      apply h2
      rw [h1]
      exact ksum_out fun q hq e => h (List.mem_map.mpr ⟨q, hq, e⟩)
theorem cof_keys {st : List (Int × Int)} {p : Int × Int} (h : p ∈ cof st) : ∃ q ∈ st, q.1 = p.1 := by
  obtain ⟨h1, h2⟩ := cof_mem.mp h
  apply Classical.byContradiction
  intro hn
  apply h2
  rw [h1]
  exact ksum_out fun q hq e => hn ⟨q, hq, e⟩
theorem cof_nodup (st : List (Int × Int)) : ((cof st).map (·.1)).Nodup := by
  have e : (cof st).map (·.1) = (srt (st.map (·.1)).eraseDups).filter fun k => decide (ksum st k ≠ 0) := by
    unfold cof
    rw [List.map_map]
    exact List.map_id _
  rw [e]
  exact (srt_nodup.mpr (nodup_eraseDups _)).filter _
end
end Zk
namespace Zk
noncomputable section
open PySem PySem.Spec PyProof.Rows L2
end
end Zk
namespace Zk
noncomputable section
open PySem PySem.Spec PyProof.Rows L2
theorem cut_upto {xs : List D} {i : Int} (h : 0 ≤ i) : cutD xs none (some i) = xs.take i.toNat := by
  have := cut_to xs i.toNat
  rwa [Int.toNat_of_nonneg h] at this
@[simp] theorem gAdd_lst (a b : List D) : gAdd [.lst a, .lst b] = if a.length + b.length ≤ sizeLine then some (.lst (a ++ b), lev (a ++ b)) else none := by simp [gAdd]
@[simp] theorem gAdd_tup (a b : List D) : gAdd [.tup a, .tup b] = if a.length + b.length ≤ sizeLine then some (.tup (a ++ b), 0) else none := by simp [gAdd]
end
end Zk
namespace Zk
open PySem PySem.Spec PyProof.Rows L2
def ins (ks : List Int) (k : Int) : List Int := if k ∈ ks then ks else ks ++ [k]
end Zk
namespace Zk
noncomputable section
open PySem PySem.Spec PyProof.Rows L2
end
end Zk
namespace Zk
noncomputable section
open PySem PySem.Spec PyProof.Rows L2
/-- a field: of p members, or of 2 ** m -/
inductive Fd where
  | prm (q : Nat) | bin (m : Nat)
namespace Fd
def d : Fd → D
  | .prm q => .int q
  | .bin m => .tup [.int 2, .int m]
def n : Fd → Nat
  | .prm q => q
  | .bin m => 2 ^ m
def ok : Fd → Prop
  | .prm q => 1 ≤ q ∧ q ≤ 1000000
  | .bin m => 1 ≤ m ∧ m ≤ 4
end Fd
def poly (m : Nat) : Nat := [0, 3, 7, 11, 19].getD m 0
def pmS (m b : Nat) (s : Nat × Nat) (bit : Nat) : Nat × Nat :=
  (if b / 2 ^ bit % 2 = 1 then s.1 ^^^ s.2 else s.1, if s.2 * 2 / 2 ^ m = 0 then s.2 * 2 else s.2 * 2 ^^^ poly m)
/-- the product of polynomials, as the program finds it -/
def pm (m a b : Nat) : Nat := ((List.range m).foldl (pmS m b) (0, a)).1
def lm1 (a b : Nat) (s bit : Nat) : Nat := if b / 2 ^ bit % 2 = 1 then s ^^^ (a * 2 ^ bit) else s
def lm2 (m : Nat) (s k : Nat) : Nat := if s / 2 ^ (2 * m - 1 - k) % 2 = 1 then s ^^^ (poly m * 2 ^ (2 * m - 1 - k - m)) else s
/-- as the law finds it -/
def lm (m a b : Nat) : Nat := (List.range m).foldl (lm2 m) ((List.range m).foldl (lm1 a b) 0)
namespace Fd
def add : Fd → Nat → Nat → Nat
  | .prm q, a, b => (a + b) % q
  | .bin _, a, b => a ^^^ b
def mul : Fd → Nat → Nat → Nat
  | .prm q, a, b => a * b % q
  | .bin m, a, b => pm m a b
def neg : Fd → Nat → Nat
  | .prm q, a => (q - a) % q
  | .bin _, a => a
theorem pm_lt {m a b : Nat} (h1 : 1 ≤ m) (h4 : m ≤ 4) (ha : a < 2 ^ m) (hb : b < 2 ^ m) : pm m a b < 2 ^ m := by
  have : ∀ m < 5, ∀ a < 2 ^ m, ∀ b < 2 ^ m, 1 ≤ m → pm m a b < 2 ^ m := by decide +kernel
  exact this m (by omega) a ha b hb h1
theorem xor_lt {m a b : Nat} (ha : a < 2 ^ m) (hb : b < 2 ^ m) : a ^^^ b < 2 ^ m := Nat.xor_lt_two_pow ha hb
theorem add_lt : ∀ {F : Fd} {a b : Nat}, F.ok → a < F.n → b < F.n → F.add a b < F.n
  | .prm q, a, b, h, _, _ => Nat.mod_lt _ h.1
  | .bin m, a, b, h, ha, hb => xor_lt ha hb
theorem mul_lt : ∀ {F : Fd} {a b : Nat}, F.ok → a < F.n → b < F.n → F.mul a b < F.n
  | .prm q, a, b, h, _, _ => Nat.mod_lt _ h.1
  | .bin m, a, b, h, ha, hb => pm_lt h.1 h.2 ha hb
theorem add_comm : ∀ (F : Fd) (a b : Nat), F.add a b = F.add b a
  | .prm q, a, b => by simp only [add, Nat.add_comm]
  | .bin m, a, b => Nat.xor_comm a b
theorem add_assoc : ∀ (F : Fd) (a b c : Nat), F.add (F.add a b) c = F.add a (F.add b c)
  | .prm q, a, b, c => by unfold add; simp [Nat.add_assoc]
  | .bin m, a, b, c => Nat.xor_assoc a b c
theorem zero_add : ∀ {F : Fd} {a : Nat}, a < F.n → F.add 0 a = a
  | .prm q, a, h => by simp only [add, Nat.zero_add]; exact Nat.mod_eq_of_lt h
  | .bin m, a, h => Nat.zero_xor a
theorem mul_comm : ∀ {F : Fd} {a b : Nat}, F.ok → a < F.n → b < F.n → F.mul a b = F.mul b a
  | .prm q, a, b, _, _, _ => by simp only [mul, Nat.mul_comm]
  | .bin m, a, b, h, ha, hb => by
    have : ∀ m < 5, ∀ a < 2 ^ m, ∀ b < 2 ^ m, 1 ≤ m → pm m a b = pm m b a := by decide +kernel
    exact this m (by have := h.2; omega) a ha b hb h.1
theorem mul_assoc : ∀ {F : Fd} {a b c : Nat}, F.ok → a < F.n → b < F.n → c < F.n → F.mul (F.mul a b) c = F.mul a (F.mul b c)
  | .prm q, a, b, c, _, _, _, _ => by unfold mul; simp [Nat.mul_assoc]
  | .bin m, a, b, c, h, ha, hb, hc => by
    have : ∀ m < 5, ∀ a < 2 ^ m, ∀ b < 2 ^ m, ∀ c < 2 ^ m, 1 ≤ m → pm m (pm m a b) c = pm m a (pm m b c) := by decide +kernel
    exact this m (by have := h.2; omega) a ha b hb c hc h.1
theorem mul_add : ∀ {F : Fd} {a b c : Nat}, F.ok → a < F.n → b < F.n → c < F.n → F.mul a (F.add b c) = F.add (F.mul a b) (F.mul a c)
  | .prm q, a, b, c, _, _, _, _ => by unfold mul add; simp [Nat.mul_add]
  | .bin m, a, b, c, h, ha, hb, hc => by
    have : ∀ m < 5, ∀ a < 2 ^ m, ∀ b < 2 ^ m, ∀ c < 2 ^ m, 1 ≤ m → pm m a (b ^^^ c) = pm m a b ^^^ pm m a c := by decide +kernel
    exact this m (by have := h.2; omega) a ha b hb c hc h.1
theorem one_mul : ∀ {F : Fd} {a : Nat}, F.ok → a < F.n → F.mul 1 a = a
  | .prm q, a, h, ha => by simp only [mul, Nat.one_mul]; exact Nat.mod_eq_of_lt ha
  | .bin m, a, h, ha => by
    have : ∀ m < 5, ∀ a < 2 ^ m, 1 ≤ m → pm m 1 a = a := by decide +kernel
    exact this m (by have := h.2; omega) a ha h.1
theorem zero_mul : ∀ {F : Fd} {a : Nat}, F.ok → a < F.n → F.mul 0 a = 0
  | .prm q, a, h, ha => by simp only [mul, Nat.zero_mul, Nat.zero_mod]
  | .bin m, a, h, ha => by
    have : ∀ m < 5, ∀ a < 2 ^ m, 1 ≤ m → pm m 0 a = 0 := by decide +kernel
    exact this m (by have := h.2; omega) a ha h.1
/-- a key as a member -/
def mem : Fd → Nat → Nat
  | .prm q, k => k % q
  | .bin _, k => k
/-- the value at x, from the greatest power down -/
def hor (F : Fd) (x : Nat) (cs : List Nat) : Nat := cs.foldr (fun c r => F.add (F.mul r x) c) 0
/-- the value of a draw at a key -/
def val (F : Fd) (cs : List Nat) (k : Nat) : Nat := hor F (F.mem k) cs
end Fd
end
end Zk
namespace Zk
noncomputable section
open PySem PySem.Spec PyProof.Rows L2
def S_law_plainb : Fs := (mRet (mOp gTuple (mAc (mLc (mRg1 (mCall (some 0) S_law_take (mAc (mVar 0) (mAc (mAdd (mVar 2) (mC (.int 1))) mA0)))) [3] (tgV 3) mYes (mCall (some 0) S_law_pick (mAc (mVar 0) (mAc (mVar 1) mA0)))) mA0)))
def S_law_plain : Mir := mDef (some 0) 4 S_law_plainb
def S_law_risingb : Fs := (mRet (mOp gTuple (mAc (mLc (mRg1 (mCall (some 0) S_law_take (mAc (mVar 0) (mAc (mAdd (mVar 2) (mC (.int 1))) mA0)))) [3] (tgV 3) mYes (mTup (mAc (mCall (some 0) S_law_pick (mAc (mVar 0) (mAc (mVar 1) mA0))) (mAc (mCall (some 0) S_law_count (mAc (mVar 0) mA0)) mA0)))) mA0)))
def S_law_rising : Mir := mDef (some 0) 4 S_law_risingb
def S_law_unitsb : Fs := (mRet (mOp gTuple (mAc (mLc (mSq (mVar 0)) [1] (tgV 1) mYes (mTup (mAc (mVar 1) (mAc (mC (.int 1)) mA0)))) mA0)))
def S_law_units : Mir := mDef none 2 S_law_unitsb
def S_law_long_plainb : Fs := (mSeq (mSet 2 (mCall (some 0) S_law_plain (mAc (mVar 0) (mAc (mVar 1) (mAc (mC (.int 24)) mA0))))) (mSeq (mIfS (mAndT (mB (mGt (mOp gLen (mAc (mVar 2) mA0)) (mC (.int 0)))) (mB (mEq (mCall (some 0) S_law_take (mAc (mVar 0) (mAc (mC (.int 6)) mA0))) (mC (.int 0))))) (mSet 2 (mSl (mMul (mVar 2) (mC (.int 200))) (mC .non) (mInt (mSub (mC (.int 200)) (mCall (some 0) S_law_take (mAc (mVar 0) (mAc (mC (.int 3)) mA0))))))) mNx) (mRet (mVar 2))))
def S_law_long_plain : Mir := mDef (some 0) 3 S_law_long_plainb
end
end Zk
namespace Zk
noncomputable section
open PySem PySem.Spec PyProof.Rows L2
end
end Zk
namespace Zk
noncomputable section
open PySem PySem.Spec PyProof.Rows L2
/-- 1 for an even number of ones, else -1 -/
def par (n : Nat) : Int := if h : n = 0 then 1 else (if n % 2 = 1 then -1 else 1) * par (n / 2)
def sgn (i k : Nat) : Int := par (i &&& k)
def sumN : Nat → (Nat → Int) → Int
  | 0, _ => 0
  | n + 1, f => sumN n f + f n
theorem sumN_congr {n : Nat} {f g : Nat → Int} (h : ∀ i, i < n → f i = g i) : sumN n f = sumN n g := by
  induction n with
  | zero => rfl
  | succ n ih => simp only [sumN]; rw [ih fun i hi => h i (by omega), h n (by omega)]
theorem sumN_add {n : Nat} {f g : Nat → Int} : sumN n (fun i => f i + g i) = sumN n f + sumN n g := by
  induction n with
  | zero => rfl
  | succ n ih => simp only [sumN, ih]; omega
theorem sumN_mul {n : Nat} {f : Nat → Int} (c : Int) : sumN n (fun i => c * f i) = c * sumN n f := by
  induction n with
  | zero => simp [sumN]
  | succ n ih => simp only [sumN, ih]; grind
theorem sumN_zero {n : Nat} {f : Nat → Int} (h : ∀ i, i < n → f i = 0) : sumN n f = 0 := by
  induction n with
  | zero => rfl
  | succ n ih => simp only [sumN]; rw [ih fun i hi => h i (by omega), h n (by omega)]; rfl
end
end Zk
namespace Zk
noncomputable section
open PySem PySem.Spec PyProof.Rows L2
/-- the transform -/
def wt (m : Nat) (f : Nat → Int) (i : Nat) : Int := sumN (2 ^ m) fun l => sgn i l * f l
theorem sumN_one {n k : Nat} {f : Nat → Int} (hk : k < n) (c : Int) : sumN n (fun l => (if k = l then c else 0) * f l) = c * f k := by
  induction n with
  | zero => omega
  | succ n ih =>
    simp only [sumN]
    by_cases h : k = n
    · subst h
      rw [if_pos rfl, sumN_zero fun i hi => by rw [if_neg (by omega), Int.zero_mul]]
      omega
    · rw [ih (by omega), if_neg h]
      omega
end
end Zk
namespace Zk
noncomputable section
open PySem PySem.Spec PyProof.Rows L2
end
end Zk
namespace Zk
noncomputable section
open PySem PySem.Spec PyProof.Rows L2
end
end Zk
namespace Zk
noncomputable section
open PySem PySem.Spec PyProof.Rows L2
/-- the counts of a stream by its keys -/
def K (st : List (Int × Int)) : Nat → Int := fun b => ksum st (b : Int)
theorem K_cons (p : Int × Int) (st : List (Int × Int)) (b : Nat) : K (p :: st) b = (if p.1 = (b : Int) then p.2 else 0) + K st b := by
  unfold K
  rw [show p :: st = [p] ++ st from rfl, ksum_app, ksum_one]
/-- a sum over a stream, by its keys -/
theorem wsum {N : Nat} {st : List (Int × Int)} (h : ∀ p ∈ st, 0 ≤ p.1 ∧ p.1 < (N : Int)) (g : Nat → Int) : sumN N (fun l => g l * K st l) = (st.map fun p => g p.1.toNat * p.2).sum := by
  induction st with
  | nil =>
    rw [sumN_zero fun i _ => by unfold K; simp]; rfl
  | cons p st ih =>
    have hp := h p List.mem_cons_self
    rw [List.map_cons, List.sum_cons, ← ih fun q hq => h q (List.mem_cons_of_mem _ hq)]
    have e : (fun l => g l * K (p :: st) l) = fun l => (if p.1.toNat = l then p.2 else 0) * g l + g l * K st l := by
      funext l
      rw [K_cons]
      have : p.1 = (l : Int) ↔ p.1.toNat = l := by omega
      simp only [this]
      grind
    rw [e, sumN_add, sumN_one (by omega)]
    grind
end
end Zk
namespace Zk
noncomputable section
open PySem PySem.Spec PyProof.Rows L2
end
end Zk
namespace Zk
noncomputable section
open PySem PySem.Spec PyProof.Rows L2
end
end Zk
namespace Zk
noncomputable section
open PySem PySem.Spec PyProof.Rows L2
/-- counts below 2 ** 200 -/
def CB (st : List (Int × Int)) : Prop := ∀ p ∈ st, p.2.natAbs ≤ 2 ^ 200
end
end Zk
namespace Zk
noncomputable section
open PySem PySem.Spec PyProof.Rows L2
@[simp] theorem gSrt1_tup (ns : List Int) : gSrt1 [.tup (ns.map D.int)] = some (.lst ((srt ns).map D.int), 9) := by
  have e : gSrt1 [.tup (ns.map D.int)] = gSrtTT [.tup (ns.map D.int)] := rfl
  rw [e]; simp [gSrtTT, gSrtT]
end
end Zk
namespace Zk
noncomputable section
open PySem PySem.Spec PyProof.Rows L2
theorem plain_spec (s : List Int) (ks : List Int) (many : Int) (hk : ks ≠ []) (h0 : 0 ≤ many) (h1 : many ≤ 1000000) : W (S_law_plain [dr s, .lst (ks.map D.int), .int many]) fun r => ∃ (ns s' : List Int),
    r = (.tup (ns.map D.int), 9, dr s') ∧ (∀ n ∈ ns, n ∈ ks) ∧ ns.length ≤ many := by
  unfold S_law_plain S_law_plainb
  have v0 := dv_nn (s := s) (n := many + 1) (by omega)
  have v1 := dv_lt (s := s) (n := many + 1) (by omega)
  have hk' : ks.map D.int ≠ [] := by simpa using hk
  have im := imms_ints ks
  have rk : rgOk (dv s (many + 1)) := ⟨by omega, by omega⟩
  simp (disch := first | assumption | (simp; done) | omega) [ent0_def, dem1, W_lc0, rk]
  refine W_lcI (I := fun k E acc => ∃ (ns s2 : List Int), acc.map (·.1) = ns.map D.int ∧ E = [some (dr s2, 1), some (.lst (ks.map D.int), 0), some (.int many, 0), none] ∧ (∀ n ∈ ns, n ∈ ks) ∧ ns.length = k) (by simp [sizeL]; omega) ⟨[], _, rfl, rfl, by simp, rfl⟩ (fun k d E acc hd hacc hE => ?_) fun E acc hacc hE => ?_
  · obtain ⟨ns, s2, ha, rfl, h2, h3⟩ := hE
    rw [rng_get] at hd
    split at hd
    · cases hd
      have pm := pk_mem (s := s2) (xs := ks) (h := hk)
      simp (disch := first | assumption | (simp; done) | omega) [dem1, pk_int (h := hk)]
      refine ⟨ns ++ [pk s2 ks hk], by simp [ha], ⟨_, rfl⟩, fun n hn => ?_, by simpa using h3⟩
      rcases List.mem_append.mp hn with hn | hn
      · exact h2 n hn
      · simp at hn; rw [hn]; exact pm
    · cases hd
  · obtain ⟨ns, s2, ha, rfl, h2, h3⟩ := hE
    have l : (rng 0 (dv s (many + 1)).toNat).length = (dv s (many + 1)).toNat := by simp
    simp (disch := first | assumption | (simp; done) | omega) [ha]
    exact ⟨ns, ⟨rfl, s2, rfl⟩, h2, by omega⟩
theorem rising_spec (s : List Int) (ks : List Int) (many : Int) (hk : ks ≠ []) (h0 : 0 ≤ many) (h1 : many ≤ 1000000) : W (S_law_rising [dr s, .lst (ks.map D.int), .int many]) fun r => ∃ (st : List (Int × Int)) (s' : List Int),
    r = (.tup (st.map pr), 9, dr s') ∧ (∀ p ∈ st, p.1 ∈ ks ∧ 1 ≤ p.2 ∧ p.2 ≤ cMax) ∧ st.length ≤ many := by
  unfold S_law_rising S_law_risingb
  have v0 := dv_nn (s := s) (n := many + 1) (by omega)
  have v1 := dv_lt (s := s) (n := many + 1) (by omega)
  have hk' : ks.map D.int ≠ [] := by simpa using hk
  have im := imms_ints ks
  have rk : rgOk (dv s (many + 1)) := ⟨by omega, by omega⟩
  simp (disch := first | assumption | (simp; done) | omega) [ent0_def, dem1, W_lc0, rk]
  refine W_lcI (I := fun k E acc => ∃ (st : List (Int × Int)) (s2 : List Int), acc.map (·.1) = st.map pr ∧ E = [some (dr s2, 1), some (.lst (ks.map D.int), 0), some (.int many, 0), none] ∧ (∀ p ∈ st, p.1 ∈ ks ∧ 1 ≤ p.2 ∧ p.2 ≤ cMax) ∧ st.length = k) (by simp [sizeL]; omega) ⟨[], _, rfl, rfl, by simp, rfl⟩ (fun k d E acc hd hacc hE => ?_) fun E acc hacc hE => ?_
  · obtain ⟨st, s2, ha, rfl, h2, h3⟩ := hE
    rw [rng_get] at hd
    split at hd
    · cases hd
      have pm := pk_mem (s := s2) (xs := ks) (h := hk)
      simp (disch := first | assumption | (simp; done) | omega) [dem1, pk_int (h := hk)]
      refine (count_spec _).mono ?_
      rintro _ ⟨c, s3, rfl, c1, c2⟩
      simp (disch := first | assumption | (simp; done) | omega) [dem1]
      refine ⟨st ++ [(pk s2 ks hk, c)], by simp [ha, pr, pk_int (h := hk)], ⟨_, rfl⟩, fun a b hn => ?_, by simpa using h3⟩
      rcases List.mem_append.mp hn with hn | hn
      · exact h2 _ hn
      · simp at hn
        obtain ⟨rfl, rfl⟩ := hn
        exact ⟨pm, c1, c2⟩
    · cases hd
  · obtain ⟨st, s2, ha, rfl, h2, h3⟩ := hE
    have l : (rng 0 (dv s (many + 1)).toNat).length = (dv s (many + 1)).toNat := by simp
    simp (disch := first | assumption | (simp; done) | omega) [ha]
    exact ⟨st, ⟨rfl, s2, rfl⟩, fun a b h => h2 (a, b) h, by omega⟩
theorem units_eq {ns : List Int} (hl : ns.length < 16777216) : S_law_units [.tup (ns.map D.int)] = some (.tup ((ns.map fun n => (n, (1 : Int))).map pr), 9, .non) := by
  have go : W (S_law_units [.tup (ns.map D.int)]) fun r => r = (.tup ((ns.map fun n => (n, (1 : Int))).map pr), 9, .non) := by
    unfold S_law_units S_law_unitsb
    simp (disch := first | assumption | (simp; done) | omega) [ent0_def, W_lc0]
    refine W_lcY (fun n => pr (n, 1)) (fun _ => imm_pr _) (by simp [sizeL]; omega) (fun n hn => ?_) fun acc ha hu => ?_
    · simp (disch := first | assumption | (simp; done) | omega) [pr]
    · have e : acc.map (·.1) = (ns.map fun n => (n, (1 : Int))).map pr := by rw [ha, List.map_map]; rfl
      simp (disch := first | assumption | (simp; done) | omega) [e, hu, -List.map_map]
  obtain ⟨r, e, rfl⟩ := go
  exact e
def rep200 (ns : List Int) : List Int := (List.replicate 200 ns).flatten
theorem rep200_mem {ns : List Int} {n : Int} (h : n ∈ rep200 ns) : n ∈ ns := by
  unfold rep200 at h
  rw [List.mem_flatten] at h
  obtain ⟨l, hl, hn⟩ := h
  rw [List.eq_of_mem_replicate hl] at hn
  exact hn
theorem long_plain_spec (s : List Int) (ks : List Int) (hk : ks ≠ []) : W (S_law_long_plain [dr s, .lst (ks.map D.int)]) fun r => ∃ (ns s' : List Int),
    r = (.tup (ns.map D.int), 9, dr s') ∧ (∀ n ∈ ns, n ∈ ks) ∧ ns.length ≤ 200 := by
  unfold S_law_long_plain S_law_long_plainb
  rw [W_mDef]
  refine W_seqJ (J := fun E => ∃ (ns s2 : List Int), (∀ n ∈ ns, n ∈ ks) ∧ ns.length ≤ 24 ∧ E = [some (dr s2, 1), some (.lst (ks.map D.int), 0), some (.tup (ns.map D.int), 9)]) ?_ ?_
  · simp (disch := first | assumption | (simp; done) | omega) [ent0_def, dem1]
    refine (plain_spec s ks 24 hk (by decide) (by decide)).mono ?_
    rintro _ ⟨ns, s2, rfl, h2, h3⟩
    simp (disch := first | assumption | (simp; done) | omega) [dem1]
    exact ⟨ns, h2, by omega, ⟨s2, rfl⟩, rfl⟩
  rintro _ ⟨ns, s2, h2, h3, rfl⟩
  refine W_seqJ (J := fun E => ∃ (ns s2 : List Int), (∀ n ∈ ns, n ∈ ks) ∧ ns.length ≤ 200 ∧ E = [some (dr s2, 1), some (.lst (ks.map D.int), 0), some (.tup (ns.map D.int), 9)]) ?_ ?_
  · have v0 := dv_nn (s := s2.dropLast) (n := 3) (by decide)
    have v1 := dv_lt (s := s2.dropLast) (n := 3) (by decide)
    have gm : ns ≠ [] → gMul [.tup (ns.map D.int), .int 200] = some (.tup ((rep200 ns).map D.int), 0) := fun hne => by
      have h : (ns.map D.int).isEmpty = false ∧ (0 : Int) ≤ 200 ∧ (200 : Int) ≤ 1000 ∧ (ns.map D.int).length ≤ 1000 := ⟨by simpa using hne, by decide, by decide, by simp; omega⟩
      have : gMul [.tup (ns.map D.int), .int 200] = if (ns.map D.int).isEmpty = false ∧ (0 : Int) ≤ 200 ∧ (200 : Int) ≤ 1000 ∧ (ns.map D.int).length ≤ 1000 then some (.tup (List.replicate (200 : Int).toNat (ns.map D.int)).flatten, 0) else none := rfl
      unfold rep200
      rw [this, if_pos h, List.map_flatten, List.map_replicate]
      rfl
    have ct := cut_upto (xs := (rep200 ns).map D.int) (i := 200 - dv s2.dropLast 3) (by omega)
    simp (disch := first | assumption | (simp; done) | omega) [dem1]
    refine ⟨fun hne => ⟨fun _ => ?_, fun _ => ⟨ns, h2, by omega, ⟨_, rfl⟩, rfl⟩⟩, fun _ => ⟨ns, h2, by omega, ⟨_, rfl⟩, rfl⟩⟩
    have hne2 : ns ≠ [] := List.length_pos_iff.mp (by simpa using hne)
    simp (disch := first | assumption | (simp; done) | omega) [gm hne2, dem1, ct, ← List.map_take]
    refine ⟨(rep200 ns).take (200 - dv s2.dropLast 3).toNat, fun n hn => ?_, by simp; omega, ⟨_, rfl⟩, rfl⟩
    exact h2 n (rep200_mem (List.mem_of_mem_take hn))
  rintro _ ⟨ns, s2, h2, h3, rfl⟩
  simp
  exact ⟨ns, ⟨rfl, s2, rfl⟩, h2, h3⟩
end
end Zk
namespace Zk
noncomputable section
open PySem PySem.Spec PyProof.Rows L2
@[simp] theorem gMin_ints (i j : Int) : gMin [.int i, .int j] = some (.int (min i j), 9) := rfl
end
end Zk
namespace Zk
noncomputable section
open PySem PySem.Spec PyProof.Rows L2
theorem at1 {α : Type} (x y : α) (l : List α) : atI (x :: y :: l) 1 = some y := by
  have : ixN (x :: y :: l).length 1 = some 1 := ixN_ok (by decide) (by simp; omega)
  unfold atI; rw [this]; rfl
theorem CB_app {a b : List (Int × Int)} (ha : CB a) (hb : CB b) : CB (a ++ b) := fun p hp => (List.mem_append.mp hp).elim (ha p) (hb p)
def Good (st : List (Int × Int)) : Prop := CB st ∧ st.length ≤ 1024
theorem Good.app {a b : List (Int × Int)} (ha : CB a) (hb : CB b) (h : a.length + b.length ≤ 1024) : Good (a ++ b) := ⟨CB_app ha hb, by simpa using h⟩
end
end Zk
namespace Zk
noncomputable section
open PySem PySem.Spec PyProof.Rows L2
end
end Zk
namespace Zk
noncomputable section
open PySem PySem.Spec PyProof.Rows L2
/-- a fraction in lowest terms -/
def fr (q : Rat) : D := .tup [.int q.num, .int q.den]
@[simp] theorem imm_fr (q : Rat) : imm (fr q) = true := by simp [fr]
@[simp] theorem imms_fr (qs : List Rat) : imms (qs.map fr) = true := imms_map' imm_fr qs
@[simp] theorem upl_fr {n m : Nat} {d : D} {p : Rat} : upl n d (fr p) m = n := upl_imm (imm_fr p)
theorem big_8000 {i : Int} (h : i.natAbs ≤ 2 ^ 8000) : i.natAbs < big := by
  have : (2 : Nat) ^ 8000 < 2 ^ 8001 := Nat.pow_lt_pow_right (by decide) (by decide)
  exact big_of (k := 8001) (by omega) (by decide)
end
end Zk
namespace Zk
noncomputable section
open PySem PySem.Spec PyProof.Rows L2
/-- how great a fraction's parts are, in bits -/
def szR (a b : Nat) (q : Rat) : Prop := q.num.natAbs ≤ 2 ^ a ∧ q.den ≤ 2 ^ b
theorem szR.mono {a b a' b' : Nat} {q : Rat} (h : szR a b q) (ha : a ≤ a') (hb : b ≤ b') : szR a' b' q :=
  ⟨Nat.le_trans h.1 (Nat.pow_le_pow_right (by decide) ha), Nat.le_trans h.2 (Nat.pow_le_pow_right (by decide) hb)⟩
theorem abs_big {i : Int} {k : Nat} (h : i.natAbs ≤ 2 ^ k) (hk : k ≤ 8000) : i.natAbs < big := big_8000 (Nat.le_trans h (Nat.pow_le_pow_right (by decide) hk))
section
variable {f g : Rat} {a b c e : Nat}
end
end
end Zk
namespace Zk
noncomputable section
open PySem PySem.Spec PyProof.Rows L2
/-- pairs of some indexes with their numbers -/
def Sel (N : Nat) (w : Nat → Int) (kp : List (Int × Int)) : Prop := (∀ p ∈ kp, ∃ a : Nat, a < N ∧ p = ((a : Int), w a)) ∧ (kp.map (·.1)).Nodup
theorem ksum_nodup {st : List (Int × Int)} (nd : (st.map (·.1)).Nodup) {p : Int × Int} (hp : p ∈ st) : ksum st p.1 = p.2 := by
  obtain ⟨a, b, e⟩ := List.append_of_mem hp
  rw [e] at nd ⊢
  have e2 : p :: b = [p] ++ b := rfl
  rw [e2, ksum_app, ksum_app, ksum_one, if_pos rfl]
  rw [List.map_append, List.map_cons] at nd
  have n2 := List.nodup_append.mp nd
  have ka : ksum a p.1 = 0 := ksum_out fun q hq e => n2.2.2 q.1 (List.mem_map.mpr ⟨q, hq, rfl⟩) p.1 (by simp) e
  have kb : ksum b p.1 = 0 := ksum_out fun q hq e => (List.nodup_cons.mp n2.2.1).1 (List.mem_map.mpr ⟨q, hq, e⟩)
  rw [ka, kb]; omega
theorem Sel.two {N : Nat} {w : Nat → Int} {kp : List (Int × Int)} (h : Sel N w kp) (a : Nat) : K kp a = 0 ∨ K kp a = w a := by
  by_cases c : ∃ p ∈ kp, p.1 = (a : Int)
  · obtain ⟨p, hp, e⟩ := c
    right
    obtain ⟨b, hb, rfl⟩ := h.1 p hp
    have := ksum_nodup h.2 hp
    unfold K
    rw [← e, this]
    simp only at e ⊢
    rw [show a = b by omega]
  · left
    exact ksum_out fun q hq e => c ⟨q, hq, e⟩
theorem Sel.rng {N : Nat} {w : Nat → Int} {kp : List (Int × Int)} (h : Sel N w kp) : ∀ p ∈ kp, 0 ≤ p.1 ∧ p.1 < (N : Int) := fun p hp => by
  obtain ⟨b, hb, rfl⟩ := h.1 p hp
  exact ⟨by simp, by simp only; omega⟩
/-- the squares of the kept ones -/
def sq2 (kp : List (Int × Int)) : Int := (kp.map fun p => p.2 * p.2).sum
theorem Sel.sq {N : Nat} {w : Nat → Int} {kp : List (Int × Int)} (h : Sel N w kp) : sumN N (fun a => K kp a * K kp a) = sq2 kp := by
  rw [wsum h.rng (K kp)]
  unfold sq2
  congr 1
  refine List.map_congr_left fun p hp => ?_
  have e := ksum_nodup h.2 hp
  have := (h.rng p hp).1
  unfold K
  rw [show ((p.1.toNat : Nat) : Int) = p.1 by omega, e]
end
end Zk
namespace Zk
noncomputable section
open PySem PySem.Spec PyProof.Rows L2
def nzp (N : Nat) (w : Nat → Int) : List (Int × Int) := ((List.range N).filter fun a => decide (w a ≠ 0)).map fun (a : Nat) => (-((w a).natAbs : Int), (a : Int))
def top (N : Nat) (w : Nat → Int) (k : Nat) : List (Int × Int) := (srtP (nzp N w)).take k
end
end Zk
namespace Zk
noncomputable section
open PySem PySem.Spec PyProof.Rows L2
end
end Zk
namespace Zk
noncomputable section
open PySem PySem.Spec PyProof.Rows L2
@[simp] theorem imm_Fd (F : Fd) : imm F.d = true := by cases F <;> simp [Fd.d]
section
variable {F : Fd} {a b : Nat}
/-- the sign of a draw at a key -/
def Fd.sgn (F : Fd) (cs : List Nat) (k : Nat) : Int := if F.val cs k % 2 = 0 then 1 else -1
end
end
end Zk
namespace Zk
noncomputable section
open PySem PySem.Spec PyProof.Rows L2
end
end Zk
namespace Zk
noncomputable section
open PySem PySem.Spec PyProof.Rows L2
end
end Zk
namespace Zk
noncomputable section
open PySem PySem.Spec PyProof.Rows L2
end
end Zk
namespace Zk
noncomputable section
open PySem PySem.Spec PyProof.Rows L2
/-- the block b of a level lies within the span -/
def wi (low high : Int) (j : Nat) (b : Int) : Prop := low ≤ b * 2 ^ j ∧ (b + 1) * 2 ^ j ≤ high + 1
theorem p2 (j : Nat) : (0 : Int) < 2 ^ j := Int.pow_pos (by decide)
theorem wi_s {low high : Int} {j : Nat} {b : Int} : wi low high (j + 1) b ↔ wi low high j (2 * b) ∧ wi low high j (2 * b + 1) := by
  unfold wi
  have h := p2 j
  rw [Int.pow_succ]
  generalize (2 : Int) ^ j = q at *
  have e1 : b * (q * 2) = 2 * (b * q) := by grind
  have e2 : (b + 1) * (q * 2) = 2 * (b * q) + 2 * q := by grind
  have e3 : 2 * b * q = 2 * (b * q) := by grind
  have e4 : (2 * b + 1) * q = 2 * (b * q) + q := by grind
  have e5 : (2 * b + 1 + 1) * q = 2 * (b * q) + 2 * q := by grind
  rw [e1, e2, e3, e4, e5]
  omega
theorem div_s (x : Int) (i : Nat) : x / 2 ^ (i + 1) = x / 2 ^ i / 2 := by
  rw [Int.pow_succ, ← Int.ediv_ediv_of_nonneg (Int.le_of_lt (p2 i))]
/-- the blocks below, around a place -/
theorem wi_down {low high x : Int} {i : Nat} : ∀ {d : Nat}, wi low high (i + d) (x / 2 ^ (i + d)) → wi low high i (x / 2 ^ i)
  | 0, h => h
  | d + 1, h => by
    refine wi_down (d := d) ?_
    rw [show i + (d + 1) = (i + d) + 1 by omega, div_s, wi_s] at h
    generalize x / 2 ^ (i + d) = q at *
    have : q = 2 * (q / 2) ∨ q = 2 * (q / 2) + 1 := by omega
    rcases this with e | e
    · rw [e]; exact h.1
    · rw [e]; exact h.2
theorem wi_le {low high x : Int} {i j : Nat} (hij : i ≤ j) (h : wi low high j (x / 2 ^ j)) : wi low high i (x / 2 ^ i) := by
  obtain ⟨d, rfl⟩ := Nat.exists_eq_add_of_le hij
  exact wi_down h
/-- a block of the fewest -/
def Cov (m : Nat) (low high : Int) (p : Int × Int) : Prop := ∃ j : Nat, j ≤ m ∧ p.1 = j ∧ wi low high j p.2 ∧ (j < m → ¬ wi low high (j + 1) (p.2 / 2))
/-- two of them around one place are one -/
theorem Cov.uniq {m : Nat} {low high x : Int} {j j' : Nat} (h : Cov m low high (j, x / 2 ^ j)) (h' : Cov m low high (j', x / 2 ^ j')) : j = j' := by
  obtain ⟨i, hi, e, w1, w2⟩ := h
  obtain ⟨i', hi', e', w1', w2'⟩ := h'
  have e : j = i := by simp only at e; omega
  have e' : j' = i' := by simp only at e'; omega
  subst e e'
  simp only at w1 w2 w1' w2'
  rcases Nat.lt_trichotomy j j' with c | c | c
  · exfalso
    refine w2 (by omega) ?_
    rw [← div_s]
    exact wi_le (by omega) w1'
  · exact c
  · exfalso
    refine w2' (by omega) ?_
    rw [← div_s]
    exact wi_le (by omega) w1
theorem mul_at {b : Int} (j : Nat) : b * 2 ^ j / 2 ^ j = b := Int.mul_ediv_cancel b (Int.ne_of_gt (p2 j))
end
end Zk
namespace Zk
noncomputable section
open PySem PySem.Spec PyProof.Rows L2
@[simp] theorem prD_pr : prD = pr := rfl
@[simp] theorem gSrt1_prs (ps : List (Int × Int)) : gSrt1 [.lst (ps.map pr)] = some (.lst ((srtP ps).map pr), 9) := by
  cases ps with
  | nil =>
    have e : srtP [] = [] := List.Perm.eq_nil (srtP_perm [])
    rw [e]
    have := gSrt1_ints []
    have e2 : srt [] = [] := List.Perm.eq_nil (srt_perm [])
    rw [e2] at this
    exact this
  | cons p ps =>
    have e : gSrt1 [.lst ((p :: ps).map pr)] = gSrtP [.lst ((p :: ps).map pr)] := rfl
    rw [e]
    have : pof ((p :: ps).map pr) = some (p :: ps) := pof_map (p :: ps)
    simp only [gSrtP, this, Option.map_some, prD_pr]
/-- the list of the fewest blocks, ascending -/
def IsCvr (m : Nat) (low high : Int) (L : List (Int × Int)) : Prop := SrtO.Srtd SrtO.lexB L ∧ L.Nodup ∧ ∀ p, p ∈ L ↔ Cov m low high p
theorem lex_snoc {L : List (Int × Int)} {p : Int × Int} (h : L.Pairwise fun a b => SrtO.lexB a b = true) (hp : ∀ q ∈ L, SrtO.lexB q p = true) : (L ++ [p]).Pairwise fun a b => SrtO.lexB a b = true := by
  rw [List.pairwise_append]
  exact ⟨h, by simp, fun a ha b hb => by simp at hb; subst hb; exact hp a ha⟩
/-- what the program keeps before a level -/
structure PC (m : Nat) (low high : Int) (k : Nat) (f l : Int) (L : List (Int × Int)) : Prop where
  srt : L.Pairwise fun a b => SrtO.lexB a b = true
  mem : ∀ p, p ∈ L ↔ Cov m low high p ∧ p.1 < k
  blk : k ≤ m → ∀ b, Zk.wi low high k b ↔ f ≤ b ∧ b ≤ l
  len : L.length ≤ 2 * k
  len2 : m < k → L.length ≤ max 1 (2 * m)
theorem PC.done {m k : Nat} {low high f l : Int} {L : List (Int × Int)} (h : PC m low high k f l L) (he : k ≤ m → l < f) : IsCvr m low high L := by
  refine ⟨h.srt.imp fun {a b} q => ?_, h.srt.imp fun {a b} q e => ?_, fun p => ⟨fun hp => ((h.mem p).mp hp).1, fun hp => (h.mem p).mpr ⟨hp, ?_⟩⟩⟩
  · have := SrtO.lexB_iff.mp q
    exact SrtO.lexB_no.mpr (by omega)
  · have := SrtO.lexB_iff.mp q
    rw [e] at this
    omega
  · obtain ⟨j, hj, e, w1, w2⟩ := hp
    rw [e]
    apply Classical.byContradiction
    intro hc
    have hk : k ≤ j := by omega
    have w := wi_le (x := p.2 * 2 ^ j) hk (by rw [mul_at]; exact w1)
    have := (h.blk (by omega) _).mp w
    have := he (by omega)
    omega
theorem cov_lvl {m k : Nat} {low high : Int} (hk : k ≤ m) {b : Int} : Cov m low high ((k : Int), b) ↔ wi low high k b ∧ (k < m → ¬ wi low high (k + 1) (b / 2)) := by
  constructor
  · rintro ⟨j, hj, e, w1, w2⟩
    have e : (k : Int) = j := e
    have : k = j := by omega
    subst this
    exact ⟨w1, w2⟩
  · rintro ⟨w1, w2⟩
    exact ⟨k, hk, rfl, w1, w2⟩
/-- at the last level there is one block at most -/
theorem wi_top {m : Nat} {low high b : Int} (h0 : 0 ≤ low) (h2 : high < 2 ^ m) (w : wi low high m b) : b = 0 := by
  unfold wi at w
  have q := p2 m
  have a : 0 ≤ b := by
    apply Classical.byContradiction
    intro hc
    have : b * 2 ^ m < 0 := Int.mul_neg_of_neg_of_pos (by omega) q
    omega
  have c : b + 1 ≤ 1 := by
    apply Classical.byContradiction
    intro hc
    have h3 : 2 * (2 : Int) ^ m ≤ (b + 1) * 2 ^ m := Int.mul_le_mul_of_nonneg_right (by omega) (Int.le_of_lt q)
    omega
  omega
/-- one level of the program -/
theorem PC.step {m k : Nat} {low high f l : Int} {L : List (Int × Int)} (h0 : 0 ≤ low) (h2 : high < 2 ^ m) (h : PC m low high k f l L) (hk : k ≤ m) (hf : f ≤ l) :
    let c1 := f % 2 = 1 ∨ k = m
    let f1 := if c1 then f + 1 else f
    let c2 := f1 ≤ l ∧ l % 2 = 0
    PC m low high (k + 1) (f1 / 2) ((if c2 then l - 1 else l) / 2) ((L ++ if c1 then [((k : Int), f)] else []) ++ if c2 then [((k : Int), l)] else []) := by
  intro c1 f1 c2
  have lt1 : ∀ q ∈ L, ∀ b : Int, SrtO.lexB q ((k : Int), b) = true := fun q hq b => SrtO.lexB_iff.mpr (.inl ((h.mem q).mp hq).2)
  have wk := h.blk hk
  have top : k = m → f = 0 ∧ l = 0 := fun e => by
    subst e
    exact ⟨wi_top h0 h2 ((wk f).mpr ⟨Int.le_refl _, hf⟩), wi_top h0 h2 ((wk l).mpr ⟨hf, Int.le_refl _⟩)⟩
  have up : ∀ b, wi low high (k + 1) b ↔ f ≤ 2 * b ∧ 2 * b + 1 ≤ l := fun b => by
    rw [wi_s, wk, wk]; omega
  -- which blocks of this level are of the fewest
  have cl : ∀ b, Cov m low high ((k : Int), b) ↔ (c1 ∧ b = f) ∨ (c2 ∧ b = l) := fun b => by
    rw [cov_lvl hk, wk, up]
    by_cases hm : k = m
    · obtain ⟨e1, e2⟩ := top hm
      have t1 : c1 := .inr hm
      have t2 : ¬ c2 := by show ¬ ((if c1 then f + 1 else f) ≤ l ∧ l % 2 = 0); rw [if_pos t1]; omega
      simp only [t1, t2, true_and, false_and, or_false]
      omega
    · have hm2 : k < m := by omega
      by_cases o : f % 2 = 1
      · have t1 : c1 := .inl o
        have e3 : f1 = f + 1 := if_pos t1
        show _ ↔ (c1 ∧ b = f) ∨ ((f1 ≤ l ∧ l % 2 = 0) ∧ b = l)
        rw [e3]
        simp only [t1, true_and]
        omega
      · have t1 : ¬ c1 := fun z => z.elim o hm
        have e3 : f1 = f := if_neg t1
        show _ ↔ (c1 ∧ b = f) ∨ ((f1 ≤ l ∧ l % 2 = 0) ∧ b = l)
        rw [e3]
        simp only [t1, false_and, false_or]
        omega
  have emp : k = m → L = [] := fun e => by
    obtain ⟨e1, e2⟩ := top e
    subst e
    apply List.eq_nil_iff_forall_not_mem.mpr
    rintro ⟨x, b⟩ hp
    obtain ⟨⟨j, hj, ej, w1, w2⟩, lt⟩ := (h.mem _).mp hp
    simp only at ej w1 w2 lt
    refine w2 (by omega) ?_
    have q := p2 j
    have w1' := w1
    unfold Zk.wi at w1'
    have e3 : (b + 1) * 2 ^ j = b * 2 ^ j + 2 ^ j := by grind
    have ex : b * 2 ^ j / 2 ^ k = 0 := Int.ediv_eq_zero_of_lt (by omega) (by omega)
    have wt : Zk.wi low high k (b * 2 ^ j / 2 ^ k) := by
      rw [ex]; exact (wk 0).mpr (by omega)
    have := wi_le (i := j + 1) (by omega) wt
    rw [div_s, mul_at] at this
    exact this
  refine ⟨?_, fun p => ?_, fun hk1 b => ?_, ?_, fun hmk => ?_⟩
  · have s1 : (L ++ if c1 then [((k : Int), f)] else []).Pairwise fun a b => SrtO.lexB a b = true := by
      split
      · exact lex_snoc h.srt fun q hq => lt1 q hq f
      · rw [List.append_nil]; exact h.srt
    by_cases hc2 : c2
    · rw [if_pos hc2]
      refine lex_snoc s1 fun q hq => ?_
      rcases List.mem_append.mp hq with hq | hq
      · exact lt1 q hq l
      · split at hq
        · rename_i hc1
          simp at hq
          subst hq
          have : f1 = f + 1 := if_pos hc1
          have := hc2.1
          exact SrtO.lexB_iff.mpr (.inr ⟨rfl, by simp only; omega⟩)
        · simp at hq
    · rw [if_neg hc2, List.append_nil]; exact s1
  · obtain ⟨x, b⟩ := p
    have hsplit : ((x, b) ∈ (L ++ if c1 then [((k : Int), f)] else []) ++ if c2 then [((k : Int), l)] else []) ↔ (x, b) ∈ L ∨ (x = k ∧ ((c1 ∧ b = f) ∨ (c2 ∧ b = l))) := by
      rw [List.mem_append, List.mem_append]
      by_cases a1 : c1 <;> by_cases a2 : c2 <;> simp [a1, a2]
      · constructor
        · rintro ((h | ⟨rfl, rfl⟩) | ⟨rfl, rfl⟩)
          · exact .inl h
          · exact .inr ⟨rfl, .inl rfl⟩
          · exact .inr ⟨rfl, .inr rfl⟩
        · rintro (h | ⟨rfl, rfl | rfl⟩)
          · exact .inl (.inl h)
          · exact .inl (.inr ⟨rfl, rfl⟩)
          · exact .inr ⟨rfl, rfl⟩
    rw [hsplit, h.mem]
    constructor
    · rintro (⟨c, lt⟩ | ⟨rfl, hb⟩)
      · exact ⟨c, by simp only at lt ⊢; omega⟩
      · exact ⟨(cl b).mpr hb, by simp only; omega⟩
    · rintro ⟨c, lt⟩
      by_cases e : x = k
      · subst e
        exact .inr ⟨rfl, (cl b).mp c⟩
      · exact .inl ⟨c, by simp only at lt ⊢; omega⟩
  · rw [up]
    have hm : ¬ k = m := by omega
    by_cases o : f % 2 = 1
    · have t1 : c1 := .inl o
      have e3 : f1 = f + 1 := if_pos t1
      by_cases a2 : c2
      · have a3 : f1 ≤ l ∧ l % 2 = 0 := a2
        rw [e3] at a3
        rw [if_pos a2, e3]
        omega
      · have a3 : ¬ (f1 ≤ l ∧ l % 2 = 0) := a2
        rw [e3] at a3
        rw [if_neg a2, e3]
        omega
    · have t1 : ¬ c1 := fun z => z.elim o hm
      have e3 : f1 = f := if_neg t1
      by_cases a2 : c2
      · have a3 : f1 ≤ l ∧ l % 2 = 0 := a2
        rw [e3] at a3
        rw [if_pos a2, e3]
        omega
      · have a3 : ¬ (f1 ≤ l ∧ l % 2 = 0) := a2
        rw [e3] at a3
        rw [if_neg a2, e3]
        omega
  · have := h.len
    split <;> split <;> simp <;> omega
  · have e : k = m := by omega
    obtain ⟨e1, e2⟩ := top e
    have t1 : c1 := .inr e
    have t2 : ¬ c2 := by show ¬ ((if c1 then f + 1 else f) ≤ l ∧ l % 2 = 0); rw [if_pos t1]; omega
    rw [if_pos t1, if_neg t2, emp e]
    simp
    omega

end
end Zk
namespace Zk
noncomputable section
open PySem PySem.Spec PyProof.Rows L2
end
end Zk
namespace Zk
noncomputable section
open PySem PySem.Spec PyProof.Rows L2
end
end Zk
namespace Zk
noncomputable section
open PySem PySem.Spec PyProof.Rows L2
end
end Zk
namespace Zk
noncomputable section
open PySem PySem.Spec PyProof.Rows L2
end
end Zk
namespace Zk
noncomputable section
open PySem PySem.Spec PyProof.Rows L2
end
end Zk
namespace Zk
noncomputable section
open PySem PySem.Spec PyProof.Rows L2
def gd (ns : List Int) (j : Nat) : Int := ns.getD j 0
end
end Zk
namespace Zk
noncomputable section
open PySem PySem.Spec PyProof.Rows L2
end
end Zk
namespace Zk
noncomputable section
open PySem PySem.Spec PyProof.Rows L2
end
end Zk
namespace Zk
noncomputable section
open PySem PySem.Spec PyProof.Rows L2
end
end Zk
namespace Zk
noncomputable section
open PySem PySem.Spec PyProof.Rows L2
def inr (n : Nat) (p : Int × Int) : Prop := 0 ≤ p.1 ∧ p.1 < p.2 ∧ p.2 < n
inductive At where | i (j : Int) | t (ys : List Int)
inductive El where | i (j : Int) | t (xs : List At)
def aD : At → D
  | .i j => .int j
  | .t ys => .tup (ys.map D.int)
def eD : El → D
  | .i j => .int j
  | .t xs => .tup (xs.map aD)
def el (p : Int × Int) : El := .t [.i p.1, .i p.2]
@[simp] theorem aD_i (j : Int) : aD (.i j) = .int j := rfl
@[simp] theorem aD_t (ys : List Int) : aD (.t ys) = .tup (ys.map D.int) := rfl
@[simp] theorem eD_i (j : Int) : eD (.i j) = .int j := rfl
@[simp] theorem eD_t (xs : List At) : eD (.t xs) = .tup (xs.map aD) := rfl
@[simp] theorem eD_el (p : Int × Int) : eD (el p) = pr p := rfl
@[simp] theorem imm_aD (a : At) : imm (aD a) = true := by cases a <;> simp
theorem imms_map'' {α : Type} {f : α → D} (h : ∀ x, imm (f x) = true) (xs : List α) : imms (xs.map f) = true := imms_map f h xs
@[simp] theorem imm_eD (a : El) : imm (eD a) = true := by cases a <;> simp [imms_map'' imm_aD]
end
end Zk
namespace Zk
noncomputable section
open PySem PySem.Spec PyProof.Rows L2
instance (n : Nat) (p : Int × Int) : Decidable (inr n p) := by unfold inr; infer_instance
end
end Zk
namespace Zk
noncomputable section
open PySem PySem.Spec PyProof.Rows L2
@[simp] theorem imms_eD (es : List El) : imms (es.map eD) = true := imms_map'' imm_eD es
@[simp] theorem imms_aD (es : List At) : imms (es.map aD) = true := imms_map'' imm_aD es
end
end Zk
namespace Zk
noncomputable section
open PySem PySem.Spec PyProof.Rows L2
/-- a pair that the judge takes -/
def tk2 (ns : List Int) (p : Int × Int) : Prop := inr ns.length p ∧ gd ns p.1.toNat ≠ gd ns p.2.toNat
end
end Zk
namespace Zk
noncomputable section
open PySem PySem.Spec PyProof.Rows L2
end
end Zk
namespace Zk
noncomputable section
open PySem PySem.Spec PyProof.Rows L2
def tE (es : List El) : D := .tup (es.map eD)
@[simp] theorem imm_tE (es : List El) : imm (tE es) = true := by simp [tE]
@[simp] theorem imms_tE (T : List (List El)) : imms (T.map tE) = true := imms_map'' imm_tE T
def Few (T : List (List El)) : Prop := (∀ es ∈ T, es.length ≤ 502) ∧ T.length ≤ 100
theorem Few.more {T : List (List El)} {n : Nat} (h : (∀ es ∈ T, es.length ≤ 502) ∧ T.length = n) {U : List (List El)} (hu : ∀ es ∈ U, es.length ≤ 502) : (∀ es ∈ T ++ U, es.length ≤ 502) ∧ (T ++ U).length = n + U.length :=
  ⟨fun es he => (List.mem_append.mp he).elim (h.1 es) (hu es), by rw [List.length_append, h.2]⟩
def ev (ns : List Int) (P : List (Int × Int)) (s : List Int) (T : List (List El)) (k a b q u8 u9 u10 u11 u12 : Option (D × Nat)) : Ev := [some (dr s, 1), some (.tup (ns.map D.int), 0), some (tE (P.map el), 0), some (.lst (T.map tE), 9), k, a, b, q, u8, u9, u10, u11, u12]
end
end Zk
namespace Zk
noncomputable section
open PySem PySem.Spec PyProof.Rows L2
end
end Zk
namespace Zk
noncomputable section
open PySem PySem.Spec PyProof.Rows L2
end
end Zk
namespace Zk
noncomputable section
open PySem PySem.Spec PyProof.Rows L2
def sg (x i : Nat) : Int := if x / 2 ^ i % 2 = 0 then 1 else -1
/-- the squares -/
def vv (m : Nat) (c : Nat → Nat → Int) (i b : Nat) : Int := c i b * c i b * 2 ^ (m - 1 - i)
def con (m : Nat) (c : Nat → Nat → Int) (p : Nat × Nat) (x : Nat) : Int := if x / 2 ^ (p.1 + 1) = p.2 then sg x p.1 * c p.1 p.2 * 2 ^ (m - 1 - p.1) else 0
/-- places of the rows, each once -/
def Pos (m : Nat) (ps : List (Nat × Nat)) : Prop := (∀ p ∈ ps, p.1 < m ∧ p.2 < 2 ^ (m - 1 - p.1)) ∧ ps.Nodup
end
end Zk
namespace Zk
noncomputable section
open PySem PySem.Spec PyProof.Rows L2
section
variable (m : Nat) (ln : Nat → Nat) (c : Nat → Nat → Int)
end
section
variable {m : Nat} {ln : Nat → Nat} {c : Nat → Nat → Int} {k : Nat}
end
end
end Zk
namespace Zk
noncomputable section
open PySem PySem.Spec PyProof.Rows L2
end
end Zk
namespace Zk
noncomputable section
open PySem PySem.Spec PyProof.Rows L2
end
end Zk
namespace Zk
noncomputable section
open PySem PySem.Spec PyProof.Rows L2
def Td (T : List (List Nat)) (r : Nat) : List Nat := T.getD r []
def Vt (F : Fd) (T : List (List Nat)) (r k : Nat) : Nat := F.val (Td T r) k
def ind (F : Fd) (T : List (List Nat)) (r b : Nat) (k : Int) : Int := if Vt F T r k.toNat = b then 1 else 0
/-- rows of draws over the field -/
def Tok (F : Fd) (T : List (List Nat)) : Prop := ∀ cs ∈ T, ∀ c ∈ cs, c < F.n
section
variable {p : Nat} {T : List (List Nat)}
theorem nat_of {k : Int} (h : 0 ≤ k) : ∃ n : Nat, k = (n : Int) := Int.eq_ofNat_of_zero_le h
theorem gMin_list {ns : List Int} (h : ns ≠ []) : gMin [.lst (ns.map D.int)] = some (.int (minL ns), 9) := by
  simp [gMin, h]
end
end
end Zk
namespace Zk
noncomputable section
open PySem PySem.Spec PyProof.Rows L2
section
variable {p : Nat} {T : List (List Nat)}
end
end
end Zk
namespace Zk
noncomputable section
open PySem PySem.Spec PyProof.Rows L2
def S_law_rising_streamb : Fs := (mSeq (mSet 2 (mCall (some 0) S_law_take (mAc (mVar 0) (mAc (mC (.int 4)) mA0)))) (mSeq (mIfS (mB (mEq (mVar 2) (mC (.int 0)))) (mRet (mCall none S_law_units (mAc (mCall (some 0) S_law_long_plain (mAc (mVar 0) (mAc (mVar 1) mA0))) mA0))) mNx) (mSeq (mIfS (mB (mEq (mVar 2) (mC (.int 1)))) (mRet (mCall (some 0) S_law_rising (mAc (mVar 0) (mAc (mVar 1) (mAc (mC (.int 30)) mA0))))) mNx) (mRet (mOp gTuple (mAc (mLc (mRg1 (mCall (some 0) S_law_take (mAc (mVar 0) (mAc (mC (.int 31)) mA0)))) [3] (tgV 3) mYes (mTup (mAc (mCall (some 0) S_law_pick (mAc (mVar 0) (mAc (mVar 1) mA0))) (mAc (mAdd (mC (.int 1)) (mCall (some 0) S_law_take (mAc (mVar 0) (mAc (mC (.int 3)) mA0)))) mA0)))) mA0))))))
def S_law_rising_stream : Mir := mDef (some 0) 4 S_law_rising_streamb
section
variable {p : Nat} {T : List (List Nat)}
end
/-- rising streams of three kinds -/
theorem rising_stream_spec (s ks : List Int) (hk : ks ≠ []) : W (S_law_rising_stream [dr s, .lst (ks.map D.int)]) fun r => ∃ (st : List (Int × Int)) (s' : List Int), r = (.tup (st.map pr), 9, dr s') ∧ (∀ q ∈ st, q.1 ∈ ks ∧ 1 ≤ q.2 ∧ q.2 ≤ cMax) ∧ st.length ≤ 200 := by
  refine W_O fun Q' hQ => ?_
  unfold S_law_rising_stream S_law_rising_streamb
  have tk := take_eq s 4 (by decide)
  have v0 := dv_nn (s := s) (n := 4) (by decide)
  have v1 := dv_lt (s := s) (n := 4) (by decide)
  have hc1 : (1 : Int) ≤ cMax := by decide
  have hc4 : (4 : Int) ≤ cMax := by decide
  rw [W_mDef]
  (refine Zk.W_seqE (E1 := ?wE18) ?wa18 ?wb18; (case wa18 => (simp (disch := first | assumption | (simp; done) | omega) [ent0_def, dem1, tk]; exact rfl)))
  generalize dv s 4 = t4 at *
  by_cases c0 : t4 = 0
  · simp (disch := first | assumption | (simp; done) | omega) [c0, dem1]
    refine (long_plain_spec _ ks hk).mono ?_
    rintro _ ⟨ns, s', rfl, h1, h2⟩
    have ue := units_eq (ns := ns) (by omega)
    simp (disch := first | assumption | (simp; done) | omega) [dem1, ue, -List.map_map]
    refine hQ _ ⟨ns.map fun n => (n, (1 : Int)), s', rfl, fun q hq => ?_, by simpa using h2⟩
    obtain ⟨n, hn, rfl⟩ := List.mem_map.mp hq
    exact ⟨h1 n hn, Int.le_refl _, hc1⟩
  · by_cases c1 : t4 = 1
    · simp (disch := first | assumption | (simp; done) | omega) [c1, dem1]
      refine (rising_spec _ ks 30 hk (by decide) (by decide)).mono ?_
      rintro _ ⟨st, s', rfl, h1, h2⟩
      simp (disch := first | assumption | (simp; done) | omega) [dem1]
      exact hQ _ ⟨st, s', rfl, h1, by omega⟩
    · have tk2 := take_eq s.dropLast 31 (by decide)
      have w0 := dv_nn (s := s.dropLast) (n := 31) (by decide)
      have w1 := dv_lt (s := s.dropLast) (n := 31) (by decide)
      obtain ⟨m, hm⟩ := nat_of w0
      rw [hm] at tk2
      have rkm : rgOk (m : Int) := ⟨by omega, by omega⟩
      simp (disch := first | assumption | (simp; done) | omega) [c0, c1, dem1, tk2, rkm, W_lc0]
      refine W_lcO (I := fun j E acc => ∃ (s : List Int) (st : List (Int × Int)), st.length = j ∧ (∀ q ∈ st, q.1 ∈ ks ∧ 1 ≤ q.2 ∧ q.2 ≤ cMax) ∧ acc.map (·.1) = st.map pr ∧ E = [some (dr s, 1), some (.lst (ks.map D.int), 0), some (.int t4, 9), none]) (by simp [rng, sizeL]; omega) ⟨_, [], rfl, by simp, rfl, rfl⟩ (fun j d E acc I' hd ha hE hI => ?_) fun E acc ha hE => ?_
      · obtain ⟨s, st, l, h2, e, rfl⟩ := hE
        have pm := pk_mem (s := s) (xs := ks) (h := hk)
        have hk' : ks.map D.int ≠ [] := by simpa using hk
        have pe := pick_eq (d := .lst (ks.map D.int)) (.inl rfl) s hk' (by rw [pk_int (h := hk)]; simp)
        rw [pk_int (h := hk)] at pe
        have tk3 := take_eq s.dropLast 3 (by decide)
        have x0 := dv_nn (s := s.dropLast) (n := 3) (by decide)
        have x1 := dv_lt (s := s.dropLast) (n := 3) (by decide)
        simp (disch := first | assumption | (simp; done) | omega) [dem1, pe, tk3]
        refine hI _ _ ⟨_, st ++ [(pk s ks hk, 1 + dv s.dropLast 3)], by simp [l], fun q hq => ?_, by rw [List.map_append, List.map_append, e]; rfl, rfl⟩
        rcases List.mem_append.mp hq with hq | hq
        · exact h2 q hq
        · rw [List.mem_singleton.mp hq]
          exact ⟨pm, by omega, by omega⟩
      · obtain ⟨s, st, l, h2, e, rfl⟩ := hE
        have lr : (rng 0 m).length = m := by simp [rng]
        rw [lr] at l
        simp (disch := first | assumption | (simp; done) | omega) [e]
        exact hQ _ ⟨st, s, rfl, h2, by omega⟩
end
end Zk
namespace Zk
noncomputable section
open PySem PySem.Spec PyProof.Rows L2
end
end Zk
namespace Zk
noncomputable section
open PySem PySem.Spec PyProof.Rows L2
def tkv (g : Nat → Int) : Nat → Nat
  | 0 => 0
  | n + 1 => tkv g n + if g 0 < 2 * g (n + 1) then 2 ^ n else 0
section
variable {n : Nat} {g : Nat → Int}
end
end
end Zk
namespace Zk
noncomputable section
open PySem PySem.Spec PyProof.Rows L2
/-- what a key adds to the part x of the cell c of row r -/
def hb (F : Fd) (T : List (List Nat)) (w r c x : Nat) (k : Int) : Int := if Vt F T r k.toNat % w = c then (if x = 0 then 1 else ((k.toNat / 2 ^ (x - 1) % 2 : Nat) : Int)) else 0
section
variable {p n w : Nat} {T : List (List Nat)}
end
end
end Zk
namespace Zk
noncomputable section
open PySem PySem.Spec PyProof.Rows L2
section
variable {F : Fd} {T : List (List Nat)} {w n r : Nat} {st : List (Int × Int)}
end
end
end Zk
namespace Zk
noncomputable section
open PySem PySem.Spec PyProof.Rows L2
section
variable {p n w : Nat} {T : List (List Nat)}
end
end
end Zk
namespace Zk
noncomputable section
open PySem PySem.Spec PyProof.Rows L2
section
variable {p n w : Nat} {T : List (List Nat)}
/-- the cell of a key in row r -/
def ccl (F : Fd) (T : List (List Nat)) (w : Nat) (G : Nat → Nat → Nat → Int) (r k : Nat) : Nat → Int := G r (Vt F T r k % w)
/-- a row's own cell tells the key -/
def tells (F : Fd) (T : List (List Nat)) (w n : Nat) (G : Nat → Nat → Nat → Int) (r k : Nat) : Bool := decide (ccl F T w G r k 0 ≠ 0 ∧ tkv (ccl F T w G r k) n = k)
end
end
end Zk
namespace Zk
noncomputable section
open PySem PySem.Spec PyProof.Rows L2
end
end Zk
namespace Zk
noncomputable section
open PySem PySem.Spec PyProof.Rows L2
abbrev Sg := List (List Nat × List Nat)
section
variable {m w : Nat} {T : Sg}
end
end
end Zk
namespace Zk
noncomputable section
open PySem PySem.Spec PyProof.Rows L2
theorem W_tg2 {a b : D} {i j : Nat} {E : Ev} {Q : Ev → Prop} (hi : i < E.length) (hj : j < E.length) (h : Q ((E.set i (some (a, 0))).set j (some (b, 0)))) : W (tgT 2 (tgC (tgV i) (tgC (tgV j) tgN)) (.tup [a, b]) E) Q :=
  W_tgT.mpr ⟨rfl, W_tgC.mpr (W_tgV.mpr ⟨hi, W_tgC.mpr (W_tgV.mpr ⟨by rw [List.length_set]; exact hj, W_tgN.mpr h⟩)⟩)⟩
section
variable {m w : Nat} {T : Sg}
end
end
end Zk
namespace Zk
noncomputable section
open PySem PySem.Spec PyProof.Rows L2
end
end Zk
namespace Zk
noncomputable section
open PySem PySem.Spec PyProof.Rows L2
/-- streams of drawn counts with keys below 2 ** m -/
def Sst (m : Nat) (st : List (Int × Int)) : Prop := st.length ≤ 1000 ∧ ∀ q ∈ st, (0 ≤ q.1 ∧ q.1 < 2 ^ m) ∧ q.2.natAbs ≤ 2 ^ 134
section
variable {m w : Nat} {T : Sg} {st : List (Int × Int)}
theorem Sst.b (h : Sst m st) : ∀ q ∈ st, q.2.natAbs < big := fun q hq => abs_big (h.2 q hq).2 (by decide)
theorem Sst.keys (h : Sst m st) : ∀ q ∈ st, 0 ≤ q.1 ∧ q.1 < 2 ^ m := fun q hq => (h.2 q hq).1
theorem Sst.of {ks : List Int} (hl : st.length ≤ 1000) (hk : ∀ k ∈ ks, 0 ≤ k ∧ k < 2 ^ m) (h : ∀ p ∈ st, p.1 ∈ ks ∧ -cMax ≤ p.2 ∧ p.2 ≤ cMax ∧ p.2 ≠ 0) : Sst m st := ⟨hl, fun q hq => ⟨hk _ (h q hq).1, by
  have e3 : cMax = 10000000000000000000000000000000000000121 := rfl
  obtain ⟨_, a, b, _⟩ := h q hq
  rw [e3] at a b
  have : 10000000000000000000000000000000000000121 ≤ 2 ^ 134 := by decide
  omega⟩⟩
theorem Sst.sub (h : Sst m st) {a : List (Int × Int)} (hl : a.length ≤ st.length) (hs : ∀ q ∈ a, q ∈ st) : Sst m a := ⟨by have := h.1; omega, fun q hq => h.2 q (hs q hq)⟩
end
end
end Zk
namespace Zk
noncomputable section
open PySem PySem.Spec PyProof.Rows L2
end
end Zk
namespace Zk
noncomputable section
def lsum {α : Type} (l : List α) (f : α → Int) : Int := (l.map f).sum
section
variable {α β : Type}
@[simp] theorem lsum_nil (f : α → Int) : lsum [] f = 0 := rfl
@[simp] theorem lsum_cons (a : α) (l : List α) (f : α → Int) : lsum (a :: l) f = f a + lsum l f := by simp [lsum]
theorem lsum_app (a b : List α) (f : α → Int) : lsum (a ++ b) f = lsum a f + lsum b f := by simp [lsum]
theorem lsum_ext {l : List α} {f g : α → Int} (h : ∀ x ∈ l, f x = g x) : lsum l f = lsum l g := by unfold lsum; rw [List.map_congr_left h]
theorem lsum_add (l : List α) (f g : α → Int) : lsum l (fun x => f x + g x) = lsum l f + lsum l g := by
  induction l with
  | nil => rfl
  | cons a l ih => simp only [lsum_cons, ih]; omega
theorem lsum_sub (l : List α) (f g : α → Int) : lsum l (fun x => f x - g x) = lsum l f - lsum l g := by
  induction l with
  | nil => rfl
  | cons a l ih => simp only [lsum_cons, ih]; omega
theorem lsum_mul (l : List α) (c : Int) (f : α → Int) : lsum l (fun x => c * f x) = c * lsum l f := by
  induction l with
  | nil => simp
  | cons a l ih => simp only [lsum_cons, ih, Int.mul_add]
theorem lsum_zero (l : List α) : lsum l (fun _ => 0) = 0 := by
  induction l with
  | nil => rfl
  | cons a l ih => simp [ih]
theorem lsum_map (l : List β) (h : β → α) (f : α → Int) : lsum (l.map h) f = lsum l fun x => f (h x) := by simp [lsum, List.map_map, Function.comp_def]
end
section
variable {m : Nat}
def dl (i j : Nat) : Int := if i = j then 1 else 0
def d4 (a b c d : Nat) : Int := dl a b * dl c d + dl a c * dl b d + dl a d * dl b c - 2 * (dl a b * dl a c * dl a d)
end
end
end Zk
namespace Zk
noncomputable section
abbrev Nl := List (Nat × Int)
def Kb (m : Nat) (l : Nl) : Prop := ∀ p ∈ l, p.1 < 2 ^ m
def Nd (l : Nl) : Prop := (l.map (·.1)).Nodup
theorem dl_ne {a b : Nat} (h : a ≠ b) : dl a b = 0 := if_neg h
theorem dl_self (a : Nat) : dl a a = 1 := if_pos rfl
theorem lsum_off {l : Nl} {k : Nat} (h : k ∉ l.map (·.1)) (g : Nat × Int → Int) : lsum l (fun q => dl k q.1 * g q) = 0 := by
  rw [← lsum_zero l]
  exact lsum_ext fun q hq => by rw [dl_ne (fun e => h (by rw [e]; exact List.mem_map_of_mem hq)), Int.zero_mul]
theorem lsum_pick {l : Nl} (nd : Nd l) {p : Nat × Int} (hp : p ∈ l) (g : Nat × Int → Int) : lsum l (fun q => dl p.1 q.1 * g q) = g p := by
  induction l with
  | nil => exact absurd hp (by simp)
  | cons a l ih =>
    obtain ⟨n1, n2⟩ := List.nodup_cons.mp nd
    rw [lsum_cons]
    rcases List.mem_cons.mp hp with rfl | h
    · rw [dl_self, lsum_off n1]; omega
    · rw [ih n2 h, dl_ne (fun e => n1 (by have t : p.1 ∈ l.map (·.1) := List.mem_map_of_mem h; rw [e] at t; exact t))]; omega
section
variable {m : Nat}
def F2 (l : Nl) : Int := lsum l fun p => p.2 * p.2
def F4 (l : Nl) : Int := lsum l fun p => p.2 * p.2 * (p.2 * p.2)
theorem in4 {l : Nl} (nd : Nd l) {p q r : Nat × Int} (hp : p ∈ l) (hq : q ∈ l) (hr : r ∈ l) : lsum l (fun s => d4 p.1 q.1 r.1 s.1 * s.2) = dl p.1 q.1 * r.2 + dl p.1 r.1 * q.2 + dl q.1 r.1 * p.2 - 2 * (dl p.1 q.1 * dl p.1 r.1 * p.2) := by
  have e : ∀ s : Nat × Int, d4 p.1 q.1 r.1 s.1 * s.2 = dl p.1 q.1 * (dl r.1 s.1 * s.2) + dl p.1 r.1 * (dl q.1 s.1 * s.2) + dl q.1 r.1 * (dl p.1 s.1 * s.2) - 2 * (dl p.1 q.1 * dl p.1 r.1) * (dl p.1 s.1 * s.2) := fun s => by
    unfold d4
    rw [Int.sub_mul, Int.add_mul, Int.add_mul]
    simp only [Int.mul_assoc, Int.mul_comm, Int.mul_left_comm]
  rw [lsum_ext fun s _ => e s, lsum_sub, lsum_add, lsum_add, lsum_mul, lsum_mul, lsum_mul, lsum_mul, lsum_pick nd hr (·.2), lsum_pick nd hq (·.2), lsum_pick nd hp (·.2)]
  simp only [Int.mul_assoc]
theorem in3 {l : Nl} (nd : Nd l) {p q : Nat × Int} (hp : p ∈ l) (hq : q ∈ l) : lsum l (fun r => r.2 * lsum l fun s => d4 p.1 q.1 r.1 s.1 * s.2) = dl p.1 q.1 * F2 l + 2 * (p.2 * q.2) - 2 * (dl p.1 q.1 * (p.2 * p.2)) := by
  have e : ∀ r ∈ l, (r.2 * lsum l fun s => d4 p.1 q.1 r.1 s.1 * s.2) = dl p.1 q.1 * (r.2 * r.2) + q.2 * (dl p.1 r.1 * r.2) + p.2 * (dl q.1 r.1 * r.2) - 2 * (dl p.1 q.1 * p.2) * (dl p.1 r.1 * r.2) := fun r hr => by
    rw [in4 nd hp hq hr]
    simp only [Int.mul_sub, Int.mul_add, Int.mul_assoc, Int.mul_comm, Int.mul_left_comm]
  rw [lsum_ext e, lsum_sub, lsum_add, lsum_add, lsum_mul, lsum_mul, lsum_mul, lsum_mul, lsum_pick nd hp (·.2), lsum_pick nd hq (·.2)]
  show dl p.1 q.1 * F2 l + q.2 * p.2 + p.2 * q.2 - 2 * (dl p.1 q.1 * p.2) * p.2 = _
  rw [Int.mul_comm q.2 p.2, Int.mul_assoc 2, Int.mul_assoc (dl p.1 q.1)]
  omega
theorem in2 {l : Nl} (nd : Nd l) {p : Nat × Int} (hp : p ∈ l) : lsum l (fun q => q.2 * lsum l fun r => r.2 * lsum l fun s => d4 p.1 q.1 r.1 s.1 * s.2) = 3 * (p.2 * F2 l) - 2 * (p.2 * (p.2 * p.2)) := by
  have e : ∀ q ∈ l, (q.2 * lsum l fun r => r.2 * lsum l fun s => d4 p.1 q.1 r.1 s.1 * s.2) = F2 l * (dl p.1 q.1 * q.2) + 2 * p.2 * (q.2 * q.2) - 2 * (p.2 * p.2) * (dl p.1 q.1 * q.2) := fun q hq => by
    rw [in3 nd hp hq]
    simp only [Int.mul_sub, Int.mul_add, Int.mul_assoc, Int.mul_comm, Int.mul_left_comm]
  rw [lsum_ext e, lsum_sub, lsum_add, lsum_mul, lsum_mul, lsum_mul, lsum_pick nd hp (·.2)]
  show F2 l * p.2 + 2 * p.2 * F2 l - 2 * (p.2 * p.2) * p.2 = _
  rw [Int.mul_comm (F2 l), Int.mul_assoc 2, Int.mul_assoc 2, Int.mul_assoc p.2]
  omega
theorem in1 {l : Nl} (nd : Nd l) : lsum l (fun p => p.2 * lsum l fun q => q.2 * lsum l fun r => r.2 * lsum l fun s => d4 p.1 q.1 r.1 s.1 * s.2) = 3 * (F2 l * F2 l) - 2 * F4 l := by
  have e : ∀ p ∈ l, (p.2 * lsum l fun q => q.2 * lsum l fun r => r.2 * lsum l fun s => d4 p.1 q.1 r.1 s.1 * s.2) = 3 * F2 l * (p.2 * p.2) - 2 * (p.2 * p.2 * (p.2 * p.2)) := fun p hp => by
    rw [in2 nd hp]
    simp only [Int.mul_sub, Int.mul_assoc, Int.mul_comm, Int.mul_left_comm]
  rw [lsum_ext e, lsum_sub, lsum_mul, lsum_mul]
  show 3 * F2 l * F2 l - 2 * F4 l = _
  rw [Int.mul_assoc]
end
end
end Zk
namespace Zk
noncomputable section
open PySem PySem.Spec PyProof.Rows L2
section
variable {m : Nat} {st : List (Int × Int)}
theorem Sst.nat (h : Sst m st) {q : Int × Int} (hq : q ∈ st) : ∃ k : Nat, q.1 = (k : Int) ∧ k < 2 ^ m := by
  obtain ⟨k, hk⟩ := nat_of (h.keys q hq).1
  refine ⟨k, hk, ?_⟩
  have := (h.keys q hq).2
  rw [hk] at this
  exact Int.ofNat_lt.mp (by rw [Int.natCast_pow]; exact this)
theorem Sst.natc (h : Sst m st) {q : Int × Int} (hq : q ∈ cof st) : ∃ k : Nat, q.1 = (k : Int) ∧ k < 2 ^ m := by
  obtain ⟨q', hq', e⟩ := cof_keys hq
  rw [← e]
  exact h.nat hq'
end
end
end Zk
namespace Zk
noncomputable section
open PySem PySem.Spec PyProof.Rows L2
section
variable {E E0 E0' : Ev} {it it2 : Fi} {g g2 : Fg} {c c2 : Ft} {f : Fe} {is is2 : List Nat} {Qe : Op × Ev → Prop} {Q : List (D × Nat) × Ev → Prop} {α β : Type}
end
section
variable {m : Nat} {st : List (Int × Int)}
def nl (st : List (Int × Int)) : Nl := (cof st).map fun q => (q.1.toNat, q.2)
theorem Sst.kb (h : Sst m st) : Kb m (nl st) := fun p hp => by
  obtain ⟨q, hq, rfl⟩ := List.mem_map.mp hp
  obtain ⟨k, hk, kl⟩ := h.natc hq
  show q.1.toNat < 2 ^ m
  rw [hk, Int.toNat_natCast]; exact kl
theorem Sst.nd (h : Sst m st) : Nd (nl st) := by
  have n1 := cof_nodup st
  unfold Nd nl
  rw [List.map_map]
  refine List.pairwise_map.mpr ?_
  have n2 := List.pairwise_map.mp n1
  refine n2.imp_of_mem fun {a b} ha hb hab => ?_
  obtain ⟨k, hk, kl⟩ := h.natc ha
  obtain ⟨k', hk', kl'⟩ := h.natc hb
  show a.1.toNat ≠ b.1.toNat
  omega
end
end
end Zk
namespace Zk
noncomputable section
open PySem PySem.Spec PyProof.Rows L2
section
variable {m : Nat} {st ot : List (Int × Int)}
theorem Sst.cb (hs : Sst m st) : CB st := fun q hq => Nat.le_trans (hs.2 q hq).2 (Nat.pow_le_pow_right (by decide) (by decide))
end
end
end Zk
namespace Zk
noncomputable section
open PySem PySem.Spec PyProof.Rows L2
section
variable {m : Nat} {st ot : List (Int × Int)}
end
end
end Zk
namespace Zk
noncomputable section
open PySem PySem.Spec PyProof.Rows L2
end
end Zk
namespace Zk
noncomputable section
open PySem PySem.Spec PyProof.Rows L2
/-- a dict m tells the sums of the pairs -/
def TabOf (m st : List (Int × Int)) : Prop := (keysI m).Nodup ∧ (∀ k, k ∈ keysI m ↔ k ∈ keysI st) ∧ (∀ k, (getI m k).getD 0 = ksum st k) ∧ m.length ≤ st.length
theorem TabOf.nil : TabOf [] [] := ⟨by simp [keysI], by simp, fun k => rfl, by simp⟩
def hkeys (st : List (Int × Int)) : List Int := srt (st.map (·.1)).eraseDups
theorem TabOf.srt {m st : List (Int × Int)} (h : TabOf m st) : Zk.srt (m.map (·.1)) = hkeys st := by
  have pm : (keysI m).Perm (st.map (·.1)).eraseDups := (List.perm_ext_iff_of_nodup h.1 (nodup_eraseDups _)).mpr fun k => by rw [List.mem_eraseDups]; exact h.2.1 k
  exact srt_perm_eq pm
theorem hkeys_mem {st : List (Int × Int)} {k : Int} : k ∈ hkeys st ↔ k ∈ st.map (·.1) := by unfold hkeys; rw [srt_mem, List.mem_eraseDups]
theorem TabOf.get {m st : List (Int × Int)} (h : TabOf m st) {k : Int} (hk : k ∈ hkeys st) : getI m k = some (ksum st k) := by
  have hk2 : k ∈ keysI m := (h.2.1 k).mpr (hkeys_mem.mp hk)
  obtain ⟨v, hv⟩ := get_some (m := m) hk2
  have := h.2.2.1 k
  rw [hv] at this ⊢
  simpa using this
/-- the same things as often -/
def Leq (a b : List Nat) : Prop := ∀ g : Nat → Int, lsum a g = lsum b g
theorem Leq.refl (a : List Nat) : Leq a a := fun _ => rfl
theorem Leq.trans {a b c : List Nat} (h : Leq a b) (h2 : Leq b c) : Leq a c := fun g => (h g).trans (h2 g)
def dbl (l : List Nat) (q : Nat) : List Nat := l ++ l.map fun r => r ^^^ q
theorem dbl_sum (l : List Nat) (q : Nat) (g : Nat → Int) : lsum (dbl l q) g = lsum l g + lsum l fun r => g (r ^^^ q) := by rw [dbl, lsum_app, lsum_map]
theorem Leq.dbl {a b : List Nat} (h : Leq a b) (q : Nat) : Leq (dbl a q) (dbl b q) := fun g => by rw [dbl_sum, dbl_sum, h, h]
theorem Leq.foldl {a b : List Nat} (h : Leq a b) (qs : List Nat) : Leq (qs.foldl Zk.dbl a) (qs.foldl Zk.dbl b) := by
  induction qs generalizing a b with
  | nil => exact h
  | cons q qs ih => exact ih (h.dbl q)
/-- a list of numbers that holds 0 and all xors, each once -/
def Sub (s : List Nat) : Prop := s.Nodup ∧ 0 ∈ s ∧ ∀ a ∈ s, ∀ b ∈ s, a ^^^ b ∈ s
theorem xor_cancel (a b : Nat) : a ^^^ b ^^^ b = a := by rw [Nat.xor_assoc, Nat.xor_self, Nat.xor_zero]
theorem xor_inj {a b q : Nat} (h : a ^^^ q = b ^^^ q) : a = b := by rw [← xor_cancel a q, h, xor_cancel]
theorem nodup_mapx {s : List Nat} (h : s.Nodup) (q : Nat) : (s.map fun r => r ^^^ q).Nodup := List.pairwise_map.mpr (h.imp fun {a b} hab e => hab (xor_inj e))
def spnS (s : List Nat) (q : Nat) : List Nat := if q ∈ s then s else dbl s q
theorem Sub.step {s : List Nat} (h : Sub s) (q : Nat) : Sub (spnS s q) := by
  unfold spnS
  split
  · exact h
  · rename_i hq
    refine ⟨?_, ?_, ?_⟩
    · unfold dbl
      rw [List.nodup_append]
      refine ⟨h.1, nodup_mapx h.1 q, fun a ha b hb e => ?_⟩
      obtain ⟨r, hr, rfl⟩ := List.mem_map.mp hb
      subst e
      have := h.2.2 _ ha _ hr
      rw [Nat.xor_comm r q, Nat.xor_assoc, Nat.xor_self, Nat.xor_zero] at this
      exact hq this
    · exact List.mem_append.mpr (.inl h.2.1)
    · intro a ha b hb
      unfold dbl at ha hb ⊢
      have key : ∀ x y, x ^^^ q ^^^ (y ^^^ q) = x ^^^ y := fun x y => by rw [Nat.xor_comm y q, ← Nat.xor_assoc, xor_cancel]
      rcases List.mem_append.mp ha with ha | ha <;> rcases List.mem_append.mp hb with hb | hb
      · exact List.mem_append.mpr (.inl (h.2.2 a ha b hb))
      · obtain ⟨r, hr, rfl⟩ := List.mem_map.mp hb
        exact List.mem_append.mpr (.inr (List.mem_map.mpr ⟨a ^^^ r, h.2.2 a ha r hr, Nat.xor_assoc a r q⟩))
      · obtain ⟨r, hr, rfl⟩ := List.mem_map.mp ha
        exact List.mem_append.mpr (.inr (List.mem_map.mpr ⟨r ^^^ b, h.2.2 r hr b hb, by show r ^^^ b ^^^ q = r ^^^ q ^^^ b; rw [Nat.xor_assoc, Nat.xor_comm b q, Nat.xor_assoc]⟩))
      · obtain ⟨r, hr, rfl⟩ := List.mem_map.mp ha
        obtain ⟨t, ht, rfl⟩ := List.mem_map.mp hb
        show r ^^^ q ^^^ (t ^^^ q) ∈ _
        rw [key]
        exact List.mem_append.mpr (.inl (h.2.2 r hr t ht))
end
end Zk
namespace Zk
noncomputable section
open PySem PySem.Spec PyProof.Rows L2
section
variable {m : Nat} {st ot : List (Int × Int)}
end
end
end Zk
namespace Zk
noncomputable section
open PySem PySem.Spec PyProof.Rows L2
end
end Zk
namespace Zk
noncomputable section
open PySem PySem.Spec PyProof.Rows L2
end
end Zk
namespace Zk
noncomputable section
open PySem PySem.Spec PyProof.Rows L2
end
end Zk
namespace Zk
noncomputable section
open PySem PySem.Spec PyProof.Rows L2
section
variable {size : Int} {m : Nat} {c : Nat → Nat → Int} {ps : List (Nat × Nat)}
end
end
end Zk
namespace Zk
noncomputable section
open PySem PySem.Spec PyProof.Rows L2
section
variable {m : Nat} {st ot : List (Int × Int)}
end
end
end Zk
namespace Zk
noncomputable section
open PySem PySem.Spec PyProof.Rows L2
section
variable {m : Nat} {st ot : List (Int × Int)}
theorem Sst.app (hs : Sst m st) (ho : Sst m ot) (hl : st.length + ot.length ≤ 1000) : Sst m (st ++ ot) := ⟨by simpa using hl, fun q hq => by
  rcases List.mem_append.mp hq with h | h
  · exact hs.2 q h
  · exact ho.2 q h⟩
end
end
end Zk
namespace Zk
noncomputable section
open PySem PySem.Spec PyProof.Rows L2
end
end Zk
namespace Zk
noncomputable section
open PySem PySem.Spec PyProof.Rows L2
section
variable {p m w : Nat} {st : List (Int × Int)} {Tb : Nat → List (List Nat)}
end
end
end Zk
namespace Zk
open PySem PySem.Spec PyProof.Rows L2
/-- slots that may hold anything -/
def AllU : List Nat → (Ev → Prop) → Ev → Prop
  | [], P, E => P E
  | i :: is, P, E => ∀ v : Option (D × Nat), AllU is P (E.set i v)
def sets : List (Nat × Option (D × Nat)) → Ev → Ev
  | [], E => E
  | p :: r, E => sets r (E.set p.1 p.2)
def ExU : List Nat → (Ev → Prop) → Ev → Prop
  | [], P, E => P E
  | i :: is, P, E => ∃ v : Option (D × Nat), ExU is P (E.set i v)
theorem ex_all {P R : Ev → Prop} : ∀ {ws : List Nat} {E : Ev}, AllU ws P E → ExU ws R E → ∃ E1, P E1 ∧ R E1
  | [], E, h, r => ⟨E, h, r⟩
  | _ :: _, _, h, ⟨v, r⟩ => ex_all (h v) r
theorem all_of {P : Ev → Prop} : ∀ {ws : List Nat} {E : Ev}, (∀ E1, ExU ws (fun E => E = E1) E → P E1) → AllU ws P E
  | [], E, h => h E rfl
  | _ :: _, _, h => fun v => all_of fun E1 x => h E1 ⟨v, x⟩
theorem set_ex {E : Ev} {i : Nat} : ∃ v, E.set i v = E := by
  by_cases h : i < E.length
  · exact ⟨E[i], by simp⟩
  · exact ⟨none, List.set_eq_of_length_le (by omega)⟩
theorem ex_refl : ∀ (ws : List Nat) (E : Ev), ExU ws (fun E' => E' = E) E
  | [], E => rfl
  | i :: ws, E => by
    obtain ⟨v, e⟩ := set_ex (E := E) (i := i)
    refine ⟨v, ?_⟩
    rw [e]
    exact ex_refl ws E
theorem W_seqK {s t : Fs} {E : Ev} {Q : Fl × Ev → Prop} (h : ∀ K : Ev → Prop, (∀ E1, W (t E1) Q → K E1) → W (s E) fun p => p.1 = .nx ∧ K p.2) : W (mSeq s t E) Q :=
  W_seqJ (fun E => W (t E) Q) (h _ fun _ h => h) fun _ h => h
theorem W_end {s : Fs} {E : Ev} {Q : Fl × Ev → Prop} (h : W (mSeq s mNx E) Q) : W (s E) Q := by
  rw [W_seq] at h
  refine h.mono fun p hp => ?_
  obtain ⟨fl, E1⟩ := p
  cases fl with
  | nx => exact W_nx.mp hp
  | _ => exact hp
@[simp] theorem imms_mapS {α : Type} {f : α → D} {xs : List α} (h : ∀ x, imm (f x) = true) : imms (xs.map f) = true := imms_map' h xs
@[simp] theorem upl_immS {n m : Nat} {d e : D} (h : imm e = true) : upl n d e m = n := upl_imm h
@[simp] theorem atI_z {α : Type} {x : α} {l : List α} : atI (x :: l) 0 = some x := by
  unfold atI
  rw [ixN_ok (by decide) (by simp)]; rfl
theorem atI_s {α : Type} {x : α} {l : List α} {i : Int} (h : 0 < i) : atI (x :: l) i = if i ≤ l.length then l[(i - 1).toNat]? else atI (x :: l) i := by
  split
  · unfold atI
    rw [ixN_ok (by omega) (by simp; omega), Option.bind_some]
    obtain ⟨j, rfl⟩ : ∃ j : Nat, i = ((j + 1 : Nat) : Int) := ⟨(i - 1).toNat, by omega⟩
    rw [Int.toNat_natCast, List.getElem?_cons_succ]
    congr 1
    omega
  · rfl
@[simp] theorem atI_1 {α : Type} {x y : α} {l : List α} : atI (x :: y :: l) 1 = some y := by
  rw [atI_s (by decide), if_pos (by simp; omega)]; rfl
@[simp] theorem atI_2 {α : Type} {x y z : α} {l : List α} : atI (x :: y :: z :: l) 2 = some z := by
  rw [atI_s (by decide), if_pos (by simp; omega)]; rfl
@[simp] theorem atI_3 {α : Type} {x y z w : α} {l : List α} : atI (x :: y :: z :: w :: l) 3 = some w := by
  rw [atI_s (by decide), if_pos (by simp; omega)]; rfl
theorem dvN (s : List Int) (n : Int) (h : 0 < n) : ∃ v : Nat, dv s n = (v : Int) ∧ (v : Int) < n := by
  refine ⟨(dv s n).toNat, ?_, ?_⟩
  · have := dv_nn (s := s) h; omega
  · have := dv_lt (s := s) h; have := dv_nn (s := s) h; omega
def StpG (I' : Ev → Prop) (X : Fl × Ev → Prop) (q : Fl × Ev) : Prop := match q.1 with
  | .nx => I' q.2 | .ct => I' q.2 | .bk => X (.nx, q.2) | .rt d n => X (.rt d n, q.2)
section
variable {I' : Ev → Prop} {X : Fl × Ev → Prop} {E : Ev} {d : D} {n : Nat}
@[simp ↓] theorem StpG_nx : StpG I' X (.nx, E) ↔ I' E := Iff.rfl
@[simp ↓] theorem StpG_ct : StpG I' X (.ct, E) ↔ I' E := Iff.rfl
@[simp ↓] theorem StpG_bk : StpG I' X (.bk, E) ↔ X (.nx, E) := Iff.rfl
@[simp ↓] theorem StpG_rt : StpG I' X (.rt d n, E) ↔ X (.rt d n, E) := Iff.rfl
end
section
variable {it : Fi} {g : Fg} {body rest : Fs} {E : Ev} {Q : Fl × Ev → Prop}
theorem W_forSx {α γ : Type} (E1 : Ev) (xs : List α) (ι : α → D) (ws : List Nat) (S : γ → List α → List (Nat × Option (D × Nat))) (P : γ → List α → Prop) (c0 : γ)
    (hi : W (it E) fun p => p.1 = xs.map ι ∧ p.2 = E1) (hE : sets (S c0 []) E1 = E1) (h0 : P c0 [])
    (st : ∀ (X : Fl × Ev → Prop), (∀ E, W (rest E) Q → X (.nx, E)) → (∀ d n E, Q (.rt d n, E) → X (.rt d n, E)) → ∀ (c : γ) (a : List α) (x : α) (b : List α) (I' : Ev → Prop), xs = a ++ x :: b → P c a → (∀ c', P c' (a ++ [x]) → AllU ws I' (sets (S c' (a ++ [x])) E1)) →
      AllU ws (fun E => W (g (ι x) E) fun E2 => W (body E2) (StpG I' X)) (sets (S c a) E1))
    (fin : ∀ c, P c xs → AllU ws (fun E => W (rest E) Q) (sets (S c xs) E1)) : W (mSeq (mFor it g body) rest E) Q := by
  let X : Fl × Ev → Prop := fun q => (match q.1 with | .nx => W (rest q.2) Q | fl => Q (fl, q.2))
  have go : W (mFor it g body E) X := by
    rw [W_for]
    refine hi.mono fun p hp => ?_
    obtain ⟨its, E'⟩ := p
    obtain ⟨e1, e2⟩ := hp
    simp only at e1 e2
    subst e1 e2
    refine W_forX (I := fun a E => ∃ c, P c a ∧ ExU ws (fun E2 => E2 = E) (sets (S c a) E')) ⟨c0, h0, ?_⟩ (fun a x b E' e hI => ?_) fun E hI => ?_
    · rw [hE]; exact ex_refl ws _
    · obtain ⟨c, hc, hx⟩ := hI
      obtain ⟨E3, w, rfl⟩ := ex_all (st X (fun _ h => h) (fun _ _ _ h => h) c a x b (fun E => ∃ c', P c' (a ++ [x]) ∧ ExU ws (fun E2 => E2 = E) (sets (S c' (a ++ [x])) _)) e hc fun c' h' => all_of fun E1 h => ⟨c', h', h⟩) hx
      exact w
    · obtain ⟨c, hc, hx⟩ := hI
      obtain ⟨E3, w, rfl⟩ := ex_all (fin c hc) hx
      exact w
  rw [W_seq]
  refine go.mono fun p hp => ?_
  obtain ⟨fl, E2⟩ := p
  exact hp
/-- without break or return -/
theorem W_forS {α γ : Type} (E1 : Ev) (xs : List α) (ι : α → D) (ws : List Nat) (S : γ → List α → List (Nat × Option (D × Nat))) (P : γ → List α → Prop) (c0 : γ)
    (hi : W (it E) fun p => p.1 = xs.map ι ∧ p.2 = E1) (hE : sets (S c0 []) E1 = E1) (h0 : P c0 [])
    (st : ∀ (c : γ) (a : List α) (x : α) (b : List α) (I' : Ev → Prop), xs = a ++ x :: b → P c a → (∀ c', P c' (a ++ [x]) → AllU ws I' (sets (S c' (a ++ [x])) E1)) →
      AllU ws (fun E => W (g (ι x) E) fun E2 => W (body E2) (StpG I' fun _ => False)) (sets (S c a) E1))
    (fin : ∀ c, P c xs → AllU ws (fun E => W (rest E) Q) (sets (S c xs) E1)) : W (mSeq (mFor it g body) rest E) Q := by
  refine W_forSx E1 xs ι ws S P c0 hi hE h0 (fun X h1 h2 c a x b I' e hc hI => ?_) fin
  refine all_of fun E3 hx => ?_
  obtain ⟨E4, w, rfl⟩ := ex_all (st c a x b I' e hc hI) hx
  refine w.mono fun E2 w2 => w2.mono fun q hq => ?_
  obtain ⟨fl, E5⟩ := q
  cases fl <;> first | exact hq | exact hq.elim
/-- over a range from 0 -/
theorem W_forNx {γ : Type} (E1 : Ev) (n : Nat) (ws : List Nat) (S : γ → Nat → List (Nat × Option (D × Nat))) (P : γ → Nat → Prop) (c0 : γ)
    (hi : W (it E) fun p => p.1 = rng 0 n ∧ p.2 = E1) (hE : sets (S c0 0) E1 = E1) (h0 : P c0 0)
    (st : ∀ (X : Fl × Ev → Prop), (∀ E, W (rest E) Q → X (.nx, E)) → (∀ d n E, Q (.rt d n, E) → X (.rt d n, E)) → ∀ (c : γ) (k : Nat) (I' : Ev → Prop), k < n → P c k → (∀ c', P c' (k + 1) → AllU ws I' (sets (S c' (k + 1)) E1)) →
      AllU ws (fun E => W (g (.int (k : Int)) E) fun E2 => W (body E2) (StpG I' X)) (sets (S c k) E1))
    (fin : ∀ c, P c n → AllU ws (fun E => W (rest E) Q) (sets (S c n) E1)) : W (mSeq (mFor it g body) rest E) Q := by
  refine W_forSx E1 (List.range n) (fun k : Nat => D.int (k : Int)) ws (fun c a => S c a.length) (fun c a => P c a.length) c0 (by rw [← rng0]; exact hi) hE h0 (fun X h1 h2 c a x b I' e hc hI => ?_) (by simpa using fin)
  have hx : x = a.length := by
    have h := congrArg (fun l => l[a.length]?) e
    simp only [List.getElem?_append_right (Nat.le_refl _), Nat.sub_self, List.getElem?_cons_zero] at h
    have hl : a.length < n := by
      have := congrArg List.length e
      simp at this
      omega
    rw [List.getElem?_range hl] at h
    simpa using h.symm
  have hl : a.length < n := by
    have := congrArg List.length e
    simp at this
    omega
  subst hx
  simp only [List.length_append, List.length_singleton] at hI
  exact st X h1 h2 c a.length I' hl hc hI
theorem W_forN {γ : Type} (E1 : Ev) (n : Nat) (ws : List Nat) (S : γ → Nat → List (Nat × Option (D × Nat))) (P : γ → Nat → Prop) (c0 : γ)
    (hi : W (it E) fun p => p.1 = rng 0 n ∧ p.2 = E1) (hE : sets (S c0 0) E1 = E1) (h0 : P c0 0)
    (st : ∀ (c : γ) (k : Nat) (I' : Ev → Prop), k < n → P c k → (∀ c', P c' (k + 1) → AllU ws I' (sets (S c' (k + 1)) E1)) →
      AllU ws (fun E => W (g (.int (k : Int)) E) fun E2 => W (body E2) (StpG I' fun _ => False)) (sets (S c k) E1))
    (fin : ∀ c, P c n → AllU ws (fun E => W (rest E) Q) (sets (S c n) E1)) : W (mSeq (mFor it g body) rest E) Q := by
  refine W_forNx E1 n ws S P c0 hi hE h0 (fun X h1 h2 c k I' e hc hI => ?_) fin
  refine all_of fun E3 hx => ?_
  obtain ⟨E4, w, rfl⟩ := ex_all (st c k I' e hc hI) hx
  refine w.mono fun E2 w2 => w2.mono fun q hq => ?_
  obtain ⟨fl, E5⟩ := q
  cases fl <;> first | exact hq | exact hq.elim
end
end Zk
namespace Zk
open PySem PySem.Spec PyProof.Rows L2
section
variable {K : PySem.W.Frag}
variable {X : Cx} {a : Expr} {fe : Fe} {p pos kpos q1 : PySem.Pos} {j : Nat}
end
end Zk
namespace Zk
open PySem PySem.Spec PyProof.Rows L2
variable {X : Cx}
section
variable {K : PySem.W.Frag} {Z Z' Zf Z0 Z1 Z2 : Addr → Prop} {H H' H0 H1 H2 : Hp} {σ σ' : L2.St} {E E' E1 EF : Ev} {R R' R0 R1 R2 Rw : Rs} {D0 : Addr}
/-- what is known of the growing set -/
structure SetG (wd : World) (Z1 : Addr → Prop) (H1 : Hp) (Rw : Rs) (D0 : Addr) (Z2 : Addr → Prop) (H2 : Hp) (R2 : Rs) (acc : List (D × Nat)) : Prop where
  t : Step Z1 H1 (ow Rw) Z2 H2 (ow R2)
  z : ¬ Z2 D0
  o : ¬ ow R2 D0
  h : ∃ S n, H2 D0 = some (SetO wd D0 S n) ∧ n ≤ acc.length ∧ ∀ j, S j = true ↔ D.int j ∈ acc.map (·.1)
theorem SetG.keep {wd : World} {Z6 : Addr → Prop} {H6 : Hp} {R6 : Rs} {acc : List (D × Nat)} (G : SetG wd Z1 H1 Rw D0 Z2 H2 R2 acc) (t : Step Z2 H2 (ow R2) Z6 H6 (ow R6)) : SetG wd Z1 H1 Rw D0 Z6 H6 R6 acc := by
  obtain ⟨S, n, e, hn, hs⟩ := G.h
  refine ⟨G.t.trans t, fun z => ?_, fun z => ?_, S, n, t.hh D0 _ e G.o, hn, hs⟩
  · rcases t.zn D0 z with z | z | z
    · exact G.z z
    · rw [e] at z; cases z
    · exact G.o z
  · rcases t.on D0 z with z | z
    · exact G.o z
    · rw [e] at z; cases z
theorem SetG.add {wd : World} {acc : List (D × Nat)} {k : Int} {m : Nat} (hD : H1 D0 = none) (G : SetG wd Z1 H1 Rw D0 Z2 H2 R2 acc) (s2 : S K Z2 H2 σ E R2) {S : Int → Bool} {n : Nat} (e : H2 D0 = some (SetO wd D0 S n)) (hn : n ≤ acc.length) (hs : ∀ j, S j = true ↔ D.int j ∈ acc.map (·.1)) :
    Zk.S K Z2 (upd H2 D0 (SetO wd D0 (fun j => S j || decide (j = k)) (if S k = true then n else n + 1))) σ E R2 ∧ SetG wd Z1 H1 Rw D0 Z2 (upd H2 D0 (SetO wd D0 (fun j => S j || decide (j = k)) (if S k = true then n else n + 1))) R2 (acc ++ [(.int k, m)]) := by
  obtain ⟨s8, p8⟩ := s2.free (o' := SetO wd D0 (fun j => S j || decide (j = k)) (if S k = true then n else n + 1)) e trivial G.o G.z
  refine ⟨s8, ⟨G.t.zz, G.t.zn, fun a o ho h => ?_, G.t.on, fun a h e2 => ?_⟩, G.z, G.o, _, _, upd_same, ?_, fun j => ?_⟩
  · have ne : a ≠ D0 := fun e => by rw [e, hD] at ho; cases ho
    rw [upd_ne ne]; exact G.t.hh a o ho h
  · by_cases ca : a = D0
    · rw [ca, upd_same] at e2; cases e2
    · rw [upd_ne ca] at e2; exact G.t.dm a h e2
  · rw [List.length_append, List.length_singleton]
    split <;> omega
  · rw [Bool.or_eq_true, hs, List.map_append, List.mem_append]
    simp
end
section
variable {X : Cx} {elt tg iter : Expr} {ifs : List Expr} {fe : Fe} {ft : Ft} {fi : Fi} {g : Fg} {scope : Scope} {pos pos1 p : PySem.Pos} {w : List Nat} {own : List (PySem.Str × Nat)}
end
end Zk
namespace Zk
open PySem PySem.Spec PyProof.Rows L2
section
variable {g : Fg} {c : Ft} {f : Fe} {is : List Nat} {Q : List (D × Nat) × Ev → Prop}
end
end Zk
namespace Zk
open PySem PySem.Spec PyProof.Rows L2
section
variable {K : PySem.W.Frag} {X : Cx}
end
end Zk
namespace Zk
open PySem PySem.Spec PyProof.Rows L2
section
variable {it : Fi} {g : Fg} {body rest : Fs} {E : Ev} {Q : Fl × Ev → Prop}
end
theorem W_ifT {ft : Ft} {s t : Fs} {E E1 : Ev} {Q : Fl × Ev → Prop} (h : W (ft E) fun p => p.1 = true ∧ p.2 = E1) (k : W (s E1) Q) : W (mIfS ft s t E) Q := by
  rw [W_ifS]
  refine h.mono fun p hp => ?_
  obtain ⟨b, E2⟩ := p
  obtain ⟨rfl, rfl⟩ := hp
  exact IfB_t.mpr k
theorem W_ifF {ft : Ft} {s t : Fs} {E E1 : Ev} {Q : Fl × Ev → Prop} (h : W (ft E) fun p => p.1 = false ∧ p.2 = E1) (k : W (t E1) Q) : W (mIfS ft s t E) Q := by
  rw [W_ifS]
  refine h.mono fun p hp => ?_
  obtain ⟨b, E2⟩ := p
  obtain ⟨rfl, rfl⟩ := hp
  exact IfB_f.mpr k
end Zk
namespace Zk
open PySem PySem.Spec PyProof.Rows L2
section
variable {K : PySem.W.Frag} {X : Cx} {a b : Expr} {fa fb : Fe} {pos : PySem.Pos}
end
end Zk
namespace Zk
open PySem PySem.Spec PyProof.Rows L2
section
variable {prg : Program} {wd : World} {Ar : Around} {EE : Value → Shared → Prop} {sh : Shared}
end
section
variable {X : Cx} {a : Expr} {ta : TE} {p p2 q pos : PySem.Pos}
end
section
variable {K : PySem.W.Frag}
variable {X : Cx} {a : Expr} {fa : Fe} {p p2 q pos : PySem.Pos}
end
end Zk
namespace Zk
open PySem PySem.Spec PyProof.Rows L2
section
variable {X : Cx} {e : Expr} {te : TE} {p apos cpos pos : PySem.Pos}
def rValL (x : V) (H : Hp) (Q : VK) : Prop := ∃ (d : Addr) (kvs : List (Key × V)), x = .ref d ∧ Rd H d (.dK kvs) ∧ ∀ l, H l = none → Q (.ref l) (upd H l (.lst (kvs.map (·.2))))
theorem vals_two {κ : Type} {kvs : List (κ × V)} {ws : List (κ × Value)} (h : KV kvs ws) : Vals (kvs.map (·.2)) (ws.map (·.2)) := by
  unfold KV at h
  induction h with
  | nil => exact .nil
  | cons r t ih => exact .cons r.2 ih
theorem pe_listVal (hc : X.calm = true) (he : PE X e te) (hg : Gl X "list") (hm : X.mg "list" = none) (hbase : attributeBase e "values" X.env (eval e X.env) = eval e X.env := by rfl) (hline : (apos.endLine == cpos.line) = true := by rfl)
    (hs : starEach [.Call (.Attribute e "values" apos) [] [] cpos] X.env = (false, eval (.Call (.Attribute e "values" apos) [] [] cpos) X.env) :: starEach [] X.env := by rfl) :
    PE X (.Call (.Name "list" p) [.Call (.Attribute e "values" apos) [] [] cpos] [] pos) (fun σ H Q => te σ H fun x H1 => rValL x H1 Q) := by
  refine ⟨fun pins s σ H Q I hq => ?_⟩
  refine wpAny_Call_Name_kw
    (ld_blt I hg hm boot_list ?_)
  refine PyProof.Rows.callWith_type1
    ?_ hs rfl
  rw [hs]
  show wpAny _ _ (spliced ((false, eval (.Call (.Attribute e "values" apos) [] [] cpos) X.env) :: backTo pos (starEach [] X.env))) _ _ s
  refine Calls.spliced_cons ?_
  refine wpAny_Call_method (T := "dict") (id := "dict.values") hbase rfl hline
    F.plainAttrs_dict F.slot_dict_values F.type_dict_values
    (thn (he.run pins s σ H _ I hq) fun u s1 ⟨x, H1, I1, rx, d, kvs, ex, hd, q⟩ => ?_)
  subst ex
  obtain rfl : u = Value.ref d := rx
  obtain ⟨hz, hs0, vs, kv, hdo⟩ : ObjOk X.prog X.w H1 s1.heap d (.dK kvs) := hd.ok I1.hok
  obtain ⟨ep, hat⟩ := hdo.dictAt
  have lk : kvs.length = vs.length :=
    Paired.length kv
  have I2 : Inv X pins σ H1 { s1 with heap := s1.heap.push { cls := .type "dict_values", data := .fields #[.ref d] } } :=
    I1.kept (t' := s1.toks) fun b ob q => Heap.get?_push_of_some _ q
  refine ⟨hdo.typeIs, hdo.mapOf.noDict, ?_⟩
  show wpAny _ _ (callWith cpos (.builtin "dict.values") [.ref d] [] [])
    _ X.xe s1
  refine method_meetsIn F.slot_dict_values F.entry_dict_values rfl (PySem.evalArgs_none
    ⟨rfl, hdo.typeIs, F.args_dict_values_1 _, _, meets_dict_values (mixKind X.prog X.w) d hs0, ⟨vs, hdo⟩, ?_⟩)
  refine Calls.spliced_nil ?_
  refine PySem.W.kdl_call (PySem.W.kdl_values (knd := mixKind X.prog X.w) (kvs := vs) (ep := ep)) (I1.ok.hd hc) ⟨⟨_, Heap.get?_push_size _ rfl, rfl, rfl⟩, hat.push _⟩ (by omega) fun h' tk acc c hk hD hacc => ?_
  have es : acc.toList = vs.map (·.2) := PySem.W.kdl_vals_eq acc.toList (by rw [Array.length_toList]; exact hacc.1) fun j v e => hacc.2 j v (by rw [← Array.getElem?_toList]; exact e)
  have ln : (kvs.map (·.2)).length ≤ sizeLine := by rw [List.length_map]; exact hz
  have J := I2.laid (t' := tk) (o := .lst (kvs.map (·.2))) hk (Nat.le_refl _) ⟨ln, acc.toList, c, by rw [es]; exact vals_two kv, by rw [Array.toArray_toList]; exact hD⟩
  exact ⟨.ref _, _, J, rfl, q _ (I2.hok.fresh (Nat.le_refl _))⟩
end
def valsOf : D → Option (List D)
  | .dK kds => some (kds.map (·.2))
  | _ => none
def gVals : List D → Option (D × Nat)
  | [d] => (valsOf d).map fun vs => (.lst vs, lev vs)
  | _ => none
def mVals (a : Fe) : Fe := mOp gVals (mA1 a)
section
variable {K : PySem.W.Frag}
theorem al_vals : AL K (fun vs H Q => ∃ x, vs = [x] ∧ rValL x H Q) gVals := by
  intro Z H vs ds d n Q hz k e q
  unfold gVals at e
  split at e
  · rename_i d0
    cases d0 with
    | dK kds =>
      cases e
      obtain ⟨x, rfl, h1⟩ := k.one
      obtain ⟨a, kvs, rfl, hd, kr⟩ := h1
      exact ⟨_, rfl, a, kvs, rfl, hd, fin_lst hz kr.2 q⟩
    | _ => cases e
  · cases e
variable {X : Cx} {e : Expr} {fe : Fe} {p apos cpos pos : PySem.Pos}
theorem ae_vals (he : AE X e fe) (hg : Gl X "list") (hm : X.mg "list" = none) (hc : X.calm = true := by rfl) (hbase : attributeBase e "values" X.env (eval e X.env) = eval e X.env := by rfl) (hline : (apos.endLine == cpos.line) = true := by rfl)
    (hs : starEach [.Call (.Attribute e "values" apos) [] [] cpos] X.env = (false, eval (.Call (.Attribute e "values" apos) [] [] cpos) X.env) :: starEach [] X.env := by rfl) :
    AE X (.Call (.Name "list" p) [.Call (.Attribute e "values" apos) [] [] cpos] [] pos) (mVals fe) :=
  PE.mono (pe_listVal hc he hg hm hbase hline hs) fun σ H Q r => eOf_imp (fun v H1 h => by
    obtain ⟨x, e, z⟩ := h
    cases e
    exact z) (aOf_1 (op_of al_vals r))
@[simp ↓] theorem W_vals {fa : Fe} {E : Ev} {Qe : Op × Ev → Prop} : W (mVals fa E) Qe ↔ W (mOp gVals (mA1 fa) E) Qe := Iff.rfl
@[simp] theorem gVals_dK (kds : List (Key × D)) : gVals [.dK kds] = some (.lst (kds.map (·.2)), lev (kds.map (·.2))) := rfl
end
end Zk
namespace Zk
open PySem PySem.Spec PyProof.Rows L2
def itmD (kds : List (Key × D)) : List D := kds.map fun p => .tup [kD p.1, p.2]
section
variable {K : PySem.W.Frag} {Z : Addr → Prop} {H : Hp} {a : Addr} {kvs : List (Key × V)} {od : Obj}
variable {σ : L2.St} {E : Ev} {R : Rs}
theorem Rp.key (k : Key) : Rp K Z H (kV k) (kD k) := by
  cases k with
  | inl i => exact .int i
  | inr x => exact .str x
theorem KR.at {κ : Type} {kvs : List (κ × V)} {kds : List (κ × D)} {H : Hp} {Z : Addr → Prop} (e : kvs.map (·.1) = kds.map (·.1)) (r : Rps K Z H (kvs.map (·.2)) (kds.map (·.2))) {i : Nat} {k : κ} {v : V} (h : kvs[i]? = some (k, v)) : ∃ d, kds[i]? = some (k, d) ∧ Rp K Z H v d := by
  have h1 : (kvs.map (·.2))[i]? = some v := by rw [List.getElem?_map, h]; rfl
  have h2 : (kvs.map (·.1))[i]? = some k := by rw [List.getElem?_map, h]; rfl
  obtain ⟨d, h3, h4⟩ := r.get h1
  rw [e, List.getElem?_map] at h2
  rw [List.getElem?_map] at h3
  cases hq : kds[i]? with
  | none => rw [hq] at h2; cases h2
  | some p =>
    rw [hq] at h2 h3
    cases h2
    cases h3
    exact ⟨p.2, rfl, h4⟩
end
end Zk
namespace Zk
open PySem PySem.Spec PyProof.Rows L2
section
variable {X : Cx} {kx vx elt : Expr} {elts : List Expr} {kk : Nat} {tpos px apos cpos : PySem.Pos} {x : PySem.Str} {ifs : List Expr} {fk fv fe : Fe} {ft : Ft} {g : Fg} {scope : Scope} {pos : PySem.Pos} {w w1 w2 : List Nat} {own : List (PySem.Str × Nat)} {body : List Stmt} {f : Fs}
end
section
variable {E : Ev} {j : Nat} {Qe : Op × Ev → Prop} {Qs : Fl × Ev → Prop} {Qi : List D × Ev → Prop} {its : List D}
theorem itmD_dI (m : List (Int × Int)) : itmD (m.map fun p => ((Sum.inl p.1 : Key), D.int p.2)) = m.map pr := by
  unfold itmD
  rw [List.map_map]
  rfl
end
end Zk
namespace Zk
open PySem PySem.Spec PyProof.Rows L2
section
variable {K : PySem.W.Frag} {Z : Addr → Prop} {H H2 : Hp} {a : Addr} {kvs : List (Key × V)} {od : Obj}
theorem rd_not {u : HO} (h : Rd H a (.dK kvs)) (e : H a = some u) (n : ∀ o, u ≠ .frz o (.dK kvs)) : u = .dK kvs := by
  rcases h with h | ⟨o, h⟩
  · rw [h] at e; cases e; rfl
  · rw [h] at e; cases e; exact absurd rfl (n o)
mutual
theorem Rp.swap (off : ∀ b, b ≠ a → H2 b = H b) (h1 : Rd H a (.dK kvs)) (h2 : Rd H2 a (.dK kvs)) : ∀ {v : V} {d : D}, Rp K Z H v d → Rp K Z H2 v d
  | _, _, .non => .non
  | _, _, .bl b => .bl b
  | _, _, .int i => .int i
  | _, _, .str x => .str x
  | _, _, .ty x => .ty x
  | _, _, .con h r => .con h (Rps.swap off h1 h2 r)
  | _, _, .tup h r => .tup (by rw [off _ (fun e => by rw [e] at h; exact absurd (rd_not h1 h (fun _ => by simp)) (by simp))]; exact h) (Rps.swap off h1 h2 r)
  | _, _, .lst z h r => .lst z (by rw [off _ (fun e => by rw [e] at h; exact absurd (rd_not h1 h (fun _ => by simp)) (by simp))]; exact h) (Rps.swap off h1 h2 r)
  | _, _, .dK (a := b) (kvs := ks) z h e r => .dK z (by
    by_cases c : b = a
    · subst c
      have : ks = kvs := by
        rcases h with h | ⟨o, h⟩ <;> rcases h1 with g | ⟨o', g⟩ <;> rw [h] at g <;> cases g <;> rfl
      rw [this]
      exact h2
    · rcases h with h | ⟨o, h⟩
      · exact .inl (by rw [off _ c]; exact h)
      · exact .inr ⟨o, by rw [off _ c]; exact h⟩) e (Rps.swap off h1 h2 r)
  | _, _, .dT z h e r => .dT z (by rw [off _ (fun e => by rw [e] at h; exact absurd (rd_not h1 h (fun _ => by simp)) (by simp))]; exact h) e (Rps.swap off h1 h2 r)
  | _, _, .set z h e n d => .set z (by rw [off _ (fun e => by rw [e] at h; exact absurd (rd_not h1 h (fun _ => by simp)) (by simp))]; exact h) e n d
  | _, _, .scr (a := b) h => .scr (by
    rcases h with ⟨o, h⟩ | h
    · refine .inl ⟨o, ?_⟩
      rw [off _ (fun e => by rw [e] at h; exact absurd (rd_not h1 h (fun _ => by simp)) (by simp))]
      exact h
    · exact .inr h)
theorem Rps.swap (off : ∀ b, b ≠ a → H2 b = H b) (h1 : Rd H a (.dK kvs)) (h2 : Rd H2 a (.dK kvs)) : ∀ {vs : List V} {ds : List D}, Rps K Z H vs ds → Rps K Z H2 vs ds
  | _, _, .nil => .nil
  | _, _, .cons h t => .cons (Rp.swap off h1 h2 h) (Rps.swap off h1 h2 t)
end
theorem Own.swap (off : ∀ b, b ≠ a → H2 b = H b) (h1 : Rd H a (.dK kvs)) (h2 : Rd H2 a (.dK kvs)) : ∀ {n : Nat} {v : V} {d : D} {rs : List Addr}, a ∉ rs → Own K Z H n v d rs → Own K Z H2 n v d rs
  | 0, _, _, _, _, h => ⟨h.1, h.2.swap off h1 h2⟩
  | n + 1, _, .lst ds, rs, k, h => by
    obtain ⟨b, vs, rss, e, ha, z, r, rfl⟩ := h
    exact ⟨b, vs, rss, e, by rw [off b (fun e => k (by rw [← e]; exact List.mem_cons_self))]; exact ha, z, r.imp fun v d rs m o => Own.swap off h1 h2 (fun hb => k (List.mem_cons_of_mem _ (mem_flatten_of m hb))) o, rfl⟩
  | n + 1, _, .dK ds, rs, k, h => by
    obtain ⟨b, vs, rss, e, ha, z, e2, r, rfl⟩ := h
    exact ⟨b, vs, rss, e, by rw [off b (fun e => k (by rw [← e]; exact List.mem_cons_self))]; exact ha, z, e2, r.imp fun v d rs m o => Own.swap off h1 h2 (fun hb => k (List.mem_cons_of_mem _ (mem_flatten_of m hb))) o, rfl⟩
  | n + 1, _, .dT ds, rs, k, h => by
    obtain ⟨b, vs, rss, e, ha, z, e2, r, rfl⟩ := h
    exact ⟨b, vs, rss, e, by rw [off b (fun e => k (by rw [← e]; exact List.mem_cons_self))]; exact ha, z, e2, r.imp fun v d rs m o => Own.swap off h1 h2 (fun hb => k (List.mem_cons_of_mem _ (mem_flatten_of m hb))) o, rfl⟩
  | n + 1, _, .set xs, rs, k, h => by
    obtain ⟨b, S, m, e, ha, z, e2, e3, e4, rfl⟩ := h
    exact ⟨b, S, m, e, by rw [off b (fun e => k (by rw [← e]; exact List.mem_cons_self))]; exact ha, z, e2, e3, e4, rfl⟩
  | n + 1, _, .non, rs, k, h => ⟨h.1, h.2.swap off h1 h2⟩
  | n + 1, _, .bl _, rs, k, h => ⟨h.1, h.2.swap off h1 h2⟩
  | n + 1, _, .int _, rs, k, h => ⟨h.1, h.2.swap off h1 h2⟩
  | n + 1, _, .str _, rs, k, h => ⟨h.1, h.2.swap off h1 h2⟩
  | n + 1, _, .ty _, rs, k, h => ⟨h.1, h.2.swap off h1 h2⟩
  | n + 1, _, .tup _, rs, k, h => ⟨h.1, h.2.swap off h1 h2⟩
  | n + 1, _, .con _, rs, k, h => ⟨h.1, h.2.swap off h1 h2⟩
  | n + 1, _, .scr _, rs, k, h => ⟨h.1, h.2.swap off h1 h2⟩
variable {σ : L2.St} {E : Ev} {R : Rs}
theorem S.swap (s : S K Z H σ E R) (off : ∀ b, b ≠ a → H2 b = H b) (h1 : Rd H a (.dK kvs)) (h2 : Rd H2 a (.dK kvs)) (no : ¬ ow R a) : S K Z H2 σ E R where
  len := s.len
  slot := fun i d n e => by
    obtain ⟨v, g1, g2⟩ := s.slot i d n e
    exact ⟨v, g1, g2.swap off h1 h2 fun m => no ⟨i, m⟩⟩
  emp := s.emp
  nd := s.nd
  dj := s.dj
  zd := fun b hb => by
    by_cases c : b = a
    · subst c
      rcases h2 with h | ⟨o, h⟩ <;> rw [h] <;> exact fun z => by cases z
    · rw [off b c]; exact s.zd b hb
theorem step_swap {Z2 : Addr → Prop} {R2 : Rs} {H1 H2 : Hp} (off : ∀ b, b ≠ a → H1 b = H b) (e1 : H1 a ≠ none) (ha : H a = some (.dK kvs)) (no : ¬ ow R a) (t2 : Step Z H1 (ow R) Z2 H2 (ow R2)) : Step Z H (ow R) Z2 (upd H2 a (.dK kvs)) (ow R2) := by
  refine ⟨t2.zz, fun b hb => ?_, fun b u hb nb => ?_, fun b hb => ?_, fun b hb => ?_⟩
  · rcases t2.zn b hb with h | h | h
    · exact .inl h
    · by_cases c : b = a
      · rw [c] at h; exact absurd h e1
      · rw [off b c] at h; exact .inr (.inl h)
    · exact .inr (.inr h)
  · by_cases c : b = a
    · subst c
      rw [ha] at hb
      rw [upd_same, hb]
    · rw [upd_ne c]
      exact t2.hh b u (by rw [off b c]; exact hb) nb
  · rcases t2.on b hb with h | h
    · exact .inl h
    · by_cases c : b = a
      · rw [c] at h; exact absurd h e1
      · rw [off b c] at h; exact .inr h
  · by_cases c : b = a
    · rw [c, upd_same]; exact fun z => by cases z
    · rw [upd_ne c]
      exact t2.dm b (by rw [off b c]; exact hb)
/-- a way to walk a dict: what it yields -/
structure Wlk (K : PySem.W.Frag) (wi : TE → TI) (its : List (Key × D) → List D) where
  J : Addr → Obj → List (Key × V) → It
  run : ∀ (j : Nat) (σ : L2.St) (H : Hp) (R : It → Hp → Prop) (a : Addr) (o : Obj) (kvs : List (Key × V)), σ[j]? = some (some (V.ref a)) → H a = some (.frz o (.dK kvs)) → R (J a o kvs) H → wi (tVar j) σ H R
  ok : ∀ {Z : Addr → Prop} {H : Hp} {a : Addr} {od : Obj} {kvs : List (Key × V)} {kds : List (Key × D)}, H a = some (.frz od (.dK kvs)) → kvs.map (·.1) = kds.map (·.1) → Rps K Z H (kvs.map (·.2)) (kds.map (·.2)) → IOk K (J a od kvs) (its kds) Z H
def keysD (kds : List (Key × D)) : List D := kds.map fun p => kD p.1
def wlkItems : Wlk K iItems itmD where
  J := Iti
  run := fun j σ H R a o kvs h1 h2 h3 => ⟨_, h1, a, o, kvs, rfl, h2, h3⟩
  ok := fun {Z H a od kvs kds} hf e r => {
    go := fun Z2 H2 i p hi => ⟨p.tp _ _ hf (fun z => z), by
      have := congrArg List.length e
      simp [itmD] at this hi
      omega⟩
    stop := fun Z2 H2 p => ⟨p.tp _ _ hf (fun z => z), by
      have := congrArg List.length e
      simp [itmD] at this ⊢
      omega⟩
    yld := fun Z2 H2 i x H3 p hi y => by
      obtain ⟨T, k, v, h1, rfl, hT, rfl⟩ := y
      obtain ⟨d, h2, h3⟩ := KR.at e r h1
      have m : More H2 (upd H2 T (.tup [kV k, v])) := .upd hT
      refine ⟨m, .tup [kD k, d], ?_, ?_⟩
      · unfold itmD
        rw [List.getElem?_map, h2]; rfl
      · exact .tup upd_same (.cons (.key k) (.cons ((h3.pers p).pers (m.pers fun _ h => h)) .nil)) }
def wlkKeys : Wlk K iKeys keysD where
  J := Itk
  run := fun j σ H R a o kvs h1 h2 h3 => ⟨_, h1, a, o, rfl, .inl ⟨kvs, h2, h3⟩⟩
  ok := fun {Z H a od kvs kds} hf e r => {
    go := fun Z2 H2 i p hi => ⟨p.tp _ _ hf (fun z => z), by
      have := congrArg List.length e
      simp [keysD] at this hi
      omega⟩
    stop := fun Z2 H2 p => ⟨p.tp _ _ hf (fun z => z), by
      have := congrArg List.length e
      simp [keysD] at this ⊢
      omega⟩
    yld := fun Z2 H2 i x H3 p hi y => by
      obtain ⟨rfl, k, v, h1, rfl⟩ := y
      obtain ⟨d, h2, h3⟩ := KR.at e r h1
      refine ⟨.refl _, kD k, ?_, .key k⟩
      unfold keysD
      rw [List.getElem?_map, h2]; rfl }
/-- what a frozen dict in a slot yields -/
def rdI (its : List (Key × D) → List D) (j : Nat) : Fi := fun E => match eg E j with
  | some (.dK kds, 0) => some (its kds, E)
  | _ => none
theorem rdI_of {its : List (Key × D) → List D} {wi : TE → TI} (wk : Wlk K wi its) {j : Nat} {Rk : It → Hp → Prop} (hv : σ[j]? = some (some (V.ref a))) (hf : H a = some (.frz od (.dK kvs))) (q : iOf K (rdI its j) σ H Rk) : wi (tVar j) σ H Rk := by
  obtain ⟨Z5, E5, R5, s5, its5, E6, e6, go⟩ := q
  unfold rdI at e6
  split at e6
  · rename_i kds e7
    cases e6
    obtain ⟨v, h1, h2⟩ := s5.slot j _ _ e7
    rw [hv] at h1
    cases h1
    cases h2.2 with
    | dK z h ek er =>
      rename_i kvs2
      have : kvs2 = kvs := by
        rcases h with h | ⟨o, h⟩ <;> rw [hf] at h <;> cases h
        rfl
      subst this
      exact wk.run j σ H Rk a od _ hv hf (go _ Z5 H R5 s5 .refl (wk.ok hf ek er))
  · cases e6
/-- the walk of a dict that is frozen from here on -/
def mLkF (its : List (Key × D) → List D) (j : Nat) (F : Fi → Fe) : Fe := fun E => match eg E j with
  | some (.dK kds, _) => F (rdI its j) (E.set j (some (.dK kds, 0)))
  | _ => none
theorem froz_dK {v : V} {kds : List (Key × D)} (h : Rp K Z H v (.dK kds)) : ∃ a kvs, v = .ref a ∧ Z a ∧ Rd H a (.dK kvs) := by
  cases h with
  | dK z h e r => exact ⟨_, _, rfl, z, h⟩
theorem lockF_of {j : Nat} {its : List (Key × D) → List D} {wi : TE → TI} (wk : Wlk K wi its) {F : Fi → Fe} {T : TI → TE} {Rst : L2.St → Hp → VK → It → Hp → Prop} {Q : VK} (hT : ∀ it σ H Q, eOf K (F it) σ H Q → T (iOf K it) σ H Q) (hw : ∀ wi σ H Q, T wi σ H Q = wi σ H (Rst σ H Q))
    (q : eOf K (mLkF its j F) σ H Q) : tLockE (T (wi (tVar j))) σ H Q ∨ T (wi (tVar j)) σ H Q := by
  obtain ⟨Z, E, R, s, o, E', e, q⟩ := q
  unfold mLkF at e
  split at e
  · rename_i kds n ej
    obtain ⟨s1, t1, rp⟩ := s.freeze ej
    obtain ⟨v, hv, _⟩ := s.slot j _ _ ej
    have rd := rp v hv
    generalize (fun a => Z a ∨ a ∈ R j) = Z1 at *
    obtain ⟨a, kvs, rfl, za, h1⟩ := froz_dK rd
    have no : ¬ ow (put R j []) a := fun h => (s1.owns h).2 za
    rcases h1 with ha | ⟨od, ha⟩
    · refine .inl ⟨a, .dK kvs, ha, trivial, fun od => ?_⟩
      have off : ∀ b, b ≠ a → upd H a (.frz od (.dK kvs)) b = H b := fun b hb => upd_ne hb
      have s2 := s1.swap (H2 := upd H a (.frz od (.dK kvs))) off (.inl ha) (.inr ⟨od, upd_same⟩) no
      have main : eOf K (F (rdI its j)) σ (upd H a (.frz od (.dK kvs))) fun v H' => H' a = some (.frz od (.dK kvs)) ∧ Q v (upd H' a (.dK kvs)) := by
        refine ⟨Z1, _, put R j [], s2, o, E', e, fun v Z2 H2 R2 rs s3 t3 ov fr => ?_⟩
        have h2 : H2 a = some (.frz od (.dK kvs)) := t3.hh a _ upd_same no
        have no2 : ¬ ow R2 a := fun z => by
          rcases t3.on a z with h | h
          · exact no h
          · rw [upd_same] at h; cases h
        have nrs : a ∉ rs := fun z => by
          rcases fr.of a z with h | h
          · exact no h
          · rw [upd_same] at h; cases h
        have off2 : ∀ b, b ≠ a → upd H2 a (.dK kvs) b = H2 b := fun b hb => upd_ne hb
        have s4 := s3.swap (H2 := upd H2 a (.dK kvs)) off2 (.inr ⟨od, h2⟩) (.inl upd_same) no2
        have t4 := step_swap off (by rw [upd_same]; exact fun z => by cases z) ha no t3
        refine ⟨h2, q v Z2 _ R2 rs s4 (t1.trans t4) ?_ ?_⟩
        · cases o with
          | slot i => exact ov
          | val d m => exact Own.swap off2 (.inr ⟨od, h2⟩) (.inl upd_same) nrs ov
        · refine ⟨fr.nd, fr.no, fun b hb => ?_⟩
          rcases fr.of b hb with h | h
          · exact t1.on b h
          · by_cases c : b = a
            · rw [c, upd_same] at h; cases h
            · rw [upd_ne c] at h; exact .inr h
      have t := hT _ _ _ _ main
      rw [hw] at t ⊢
      exact rdI_of wk hv upd_same t
    · refine .inr ?_
      have main : eOf K (F (rdI its j)) σ H Q := ⟨Z1, _, put R j [], s1, o, E', e, fun v Z2 H2 R2 rs s3 t3 ov fr => q v Z2 H2 R2 rs s3 (t1.trans t3) ov (fr.trans t1.on t1.dm)⟩
      have t := hT _ _ _ _ main
      rw [hw] at t ⊢
      exact rdI_of wk hv ha t
  · cases e
/-- .. within a statement -/
def mLkG (its : List (Key × D) → List D) (j : Nat) (F : Fi → Fs) : Fs := fun E => match eg E j with
  | some (.dK kds, _) => F (rdI its j) (E.set j (some (.dK kds, 0)))
  | _ => none
theorem lockG_of {j : Nat} {its : List (Key × D) → List D} {wi : TE → TI} (wk : Wlk K wi its) {w : List Nat} {F : Fi → Fs} {T : TI → TS} {Rst : Ends → L2.St → Hp → It → Hp → Prop} {D0 : Ends} (hT : ∀ it D σ H, sOf K w (F it) D σ H → T (iOf K it) D σ H) (hw : ∀ wi D σ H, T wi D σ H = wi σ H (Rst D σ H))
    (q : sOf K w (mLkG its j F) D0 σ H) : tLock (T (wi (tVar j))) D0 σ H ∨ T (wi (tVar j)) D0 σ H := by
  obtain ⟨Z, E, R, s, fl, E', e, q⟩ := q
  unfold mLkG at e
  split at e
  · rename_i kds n ej
    obtain ⟨s1, t1, rp⟩ := s.freeze ej
    obtain ⟨v, hv, _⟩ := s.slot j _ _ ej
    have rd := rp v hv
    generalize (fun a => Z a ∨ a ∈ R j) = Z1 at *
    obtain ⟨a, kvs, rfl, za, h1⟩ := froz_dK rd
    have no : ¬ ow (put R j []) a := fun h => (s1.owns h).2 za
    rcases h1 with ha | ⟨od, ha⟩
    · refine .inl ⟨a, .dK kvs, ha, trivial, fun od => ?_⟩
      have off : ∀ b, b ≠ a → upd H a (.frz od (.dK kvs)) b = H b := fun b hb => upd_ne hb
      have s2 := s1.swap (H2 := upd H a (.frz od (.dK kvs))) off (.inl ha) (.inr ⟨od, upd_same⟩) no
      have main : sOf K w (F (rdI its j)) ⟨fun σ' H' => H' a = some (.frz od (.dK kvs)) ∧ D0.nx σ' (upd H' a (.dK kvs)), fun v H' => H' a = some (.frz od (.dK kvs)) ∧ D0.rt v (upd H' a (.dK kvs)), fun σ' H' => H' a = some (.frz od (.dK kvs)) ∧ D0.bk σ' (upd H' a (.dK kvs)), fun σ' H' => H' a = some (.frz od (.dK kvs)) ∧ D0.ct σ' (upd H' a (.dK kvs))⟩ σ (upd H a (.frz od (.dK kvs))) := by
        refine ⟨Z1, _, put R j [], s2, fl, E', e, fun σ2 Z2 H2 R2 s3 t3 k3 => ?_⟩
        have h2 : H2 a = some (.frz od (.dK kvs)) := t3.hh a _ upd_same no
        have no2 : ¬ ow R2 a := fun z => by
          rcases t3.on a z with h | h
          · exact no h
          · rw [upd_same] at h; cases h
        have off2 : ∀ b, b ≠ a → upd H2 a (.dK kvs) b = H2 b := fun b hb => upd_ne hb
        have s4 := s3.swap (H2 := upd H2 a (.dK kvs)) off2 (.inr ⟨od, h2⟩) (.inl upd_same) no2
        have t4 := step_swap off (by rw [upd_same]; exact fun z => by cases z) ha no t3
        have q := q σ2 Z2 _ R2 s4 (t1.trans t4) k3
        cases fl with
        | nx => exact ⟨h2, q⟩
        | bk => exact ⟨h2, q⟩
        | ct => exact ⟨h2, q⟩
        | rt d m =>
          intro v rs ov fr
          have nrs : a ∉ rs := fun z => by
            rcases fr.of a z with h | h
            · exact no h
            · rw [upd_same] at h; cases h
          refine ⟨h2, q v rs (Own.swap off2 (.inr ⟨od, h2⟩) (.inl upd_same) nrs ov) ⟨fr.nd, fr.no, fun b hb => ?_⟩⟩
          rcases fr.of b hb with h | h
          · exact t1.on b h
          · by_cases c : b = a
            · rw [c, upd_same] at h; cases h
            · rw [upd_ne c] at h; exact .inr h
      have t := hT _ _ _ _ main
      rw [hw] at t ⊢
      exact rdI_of wk hv upd_same t
    · refine .inr ?_
      have main : sOf K w (F (rdI its j)) D0 σ H := by
        refine ⟨Z1, _, put R j [], s1, fl, E', e, fun σ2 Z2 H2 R2 s3 t3 k3 => ?_⟩
        have q := q σ2 Z2 H2 R2 s3 (t1.trans t3) k3
        cases fl with
        | nx => exact q
        | bk => exact q
        | ct => exact q
        | rt d m => exact fun v rs ov fr => q v rs ov (fr.trans t1.on t1.dm)
      have t := hT _ _ _ _ main
      rw [hw] at t ⊢
      exact rdI_of wk hv ha t
  · cases e
end
end Zk
namespace Zk
open PySem PySem.Spec PyProof.Rows L2
section
variable {X : Cx} {tg iter kx vx elt : Expr} {elts : List Expr} {kk : Nat} {tpos px apos cpos : PySem.Pos} {x : PySem.Str} {ifs : List Expr} {fk fv fe : Fe} {ft : Ft} {g : Fg} {scope : Scope} {pos : PySem.Pos} {w w1 w2 : List Nat} {own : List (PySem.Str × Nat)} {body : List Stmt} {f : Fs} {wi : TE → TI} {its : List (Key × D) → List D}
theorem pe_orl {e : Expr} {t : TE} (h : PE X e t) : PE X e fun σ H Q => tLockE t σ H Q ∨ t σ H Q := ⟨fun pins s σ H Q I q => q.elim ((pe_lock h).run pins s σ H Q I) (h.run pins s σ H Q I)⟩
theorem ps_orl {st : Stmt} {t : TS} (h : PS X st t) : PS X st fun D σ H => tLock t D σ H ∨ t D σ H := ⟨fun pins s σ H D I q => q.elim ((ps_lock h).run pins s σ H D I) (h.run pins s σ H D I)⟩
theorem pi_kN (j : Nat) (hNj : X.N[j]? = some x := by rfl) (hv2 : Vis X.env.scope x := by first | exact Or.inl rfl | exact Or.inr (Or.inl rfl) | exact Or.inr (Or.inr rfl)) (hd2 : (x == ("__debug__" : PySem.Str)) = false := by decide) (hcd : (x == ("__classdict__" : PySem.Str)) = false := by decide) : PI X tg (.Name x px) (iKeys (tVar j)) := pi_keys (pe_var hNj hv2 hd2 hcd)
theorem pi_iN (j : Nat) (hNj : X.N[j]? = some x := by rfl) (hv2 : Vis X.env.scope x := by first | exact Or.inl rfl | exact Or.inr (Or.inl rfl) | exact Or.inr (Or.inr rfl)) (hd2 : (x == ("__debug__" : PySem.Str)) = false := by decide) (hcd : (x == ("__classdict__" : PySem.Str)) = false := by decide)
    (hbase : attributeBase (.Name x px) "items" X.env (eval (.Name x px) X.env) = eval (.Name x px) X.env := by rfl) (hline : (apos.endLine == cpos.line) = true := by rfl) : PI X (.Tuple elts kk tpos) (.Call (.Attribute (.Name x px) "items" apos) [] [] cpos) (iItems (tVar j)) := pi_items (pe_var hNj hv2 hd2 hcd) hbase hline
theorem ae_lcF (j : Nat) (wk : Wlk X.K wi its) (own : List (PySem.Str × Nat)) (hN : X.N.Nodup) (ok : BlkOk X.N X.env.scope scope own) (hi : PI X tg iter (wi (tVar j)))
    (hg : ∀ (s : Shared) (H : Hp) (C : Addr) (cl : List (PySem.Str × Addr)) (fp : List Addr), AG (X.blk s H scope (compEnvC scope cl C X.env) fp) tg w g)
    (ht : ∀ (s : Shared) (H : Hp) (C : Addr) (cl : List (PySem.Str × Addr)) (fp : List Addr), ATs (X.blk s H scope (compEnvC scope cl C X.env) fp) ifs ft)
    (he : ∀ (s : Shared) (H : Hp) (C : Addr) (cl : List (PySem.Str × Addr)) (fp : List Addr), AE (X.blk s H scope (compEnvC scope cl C X.env) fp) elt fe)
    (hgl : GL g) (hw : ∀ i ∈ w, i ∈ own.map (·.2) := by decide) (hc : X.calm = true := by rfl) (hs : ∀ y, foldedSetIterable iter X.env y = pure y := by intro _; rfl) :
    AE X (.ListComp elt [⟨tg, iter, ifs, 0⟩] scope pos) (mLkF its j fun it => mLc it (own.map (·.2)) g ft fe) :=
  PE.mono (pe_orl (pe_lc hc hN hi ok hg ht he hs)) fun σ H Q q => lockF_of wk (T := fun wi => tLc wi _ _ _ _) (fun it σ H Q q => lc_of hgl hw q) (fun wi σ H Q => rfl) q
theorem ae_dcF (j : Nat) (wk : Wlk X.K wi its) (own : List (PySem.Str × Nat)) (hu : X.A.units + 1 < cLine) (hN : X.N.Nodup) (ok : BlkOk X.N X.env.scope scope own) (hi : PI X tg iter (wi (tVar j)))
    (hg : ∀ (s : Shared) (H : Hp) (C : Addr) (cl : List (PySem.Str × Addr)) (fp : List Addr), AG (X.blk s H scope (compEnvC scope cl C X.env) fp) tg w g)
    (ht : ∀ (s : Shared) (H : Hp) (C : Addr) (cl : List (PySem.Str × Addr)) (fp : List Addr), ATs (X.blk s H scope (compEnvC scope cl C X.env) fp) ifs ft)
    (hk : ∀ (s : Shared) (H : Hp) (C : Addr) (cl : List (PySem.Str × Addr)) (fp : List Addr), AE (X.blk s H scope (compEnvC scope cl C X.env) fp) kx fk)
    (hv : ∀ (s : Shared) (H : Hp) (C : Addr) (cl : List (PySem.Str × Addr)) (fp : List Addr), AE (X.blk s H scope (compEnvC scope cl C X.env) fp) vx fv)
    (hgl : GL g) (hw : ∀ i ∈ w, i ∈ own.map (·.2) := by decide) (hc : X.calm = true := by rfl) (hs : ∀ y, foldedSetIterable iter X.env y = pure y := by intro _; rfl) :
    AE X (.DictComp kx vx [⟨tg, iter, ifs, 0⟩] scope pos) (mLkF its j fun it => mDcK it (own.map (·.2)) g ft fk fv) :=
  PE.mono (pe_orl (pe_dcA false hu hc hN hi ok hg ht hk hv hs)) fun σ H Q q => lockF_of wk (T := fun wi => tDcA false wi _ _ _ _ _) (fun it σ H Q q => dcA_of false (con := D.dK) (coh := HO.dK) hgl hw rfl (fun {Z H a kvs kds m} h z e al => ⟨a, kvs, _, rfl, h, z, e, al, by rw [flat_nils]⟩) (fun _ => trivial)
    (fun {Z H a kvs kd k kv v} h hl e r => by cases key_kV (r.rd) e; exact .k h hl) q) (fun wi σ H Q => rfl) q
theorem as_forF (j : Nat) (wk : Wlk X.K wi its) (hp : PassesOwn (model X.prog X.w) X.A X.env X.xe) (hi : PI X tg iter (wi (tVar j))) (hg : AG X tg w1 g) (hb : ASs X body w2 f) (hc : X.calm = true := by rfl) (hs : ∀ y, foldedSetIterable iter X.env y = pure y := by intro _; rfl) :
    AS X (.For tg iter body [] pos) (w1 ++ w2) (mLkG its j fun it => mFor it g f) :=
  PS.mono (ps_orl (ps_for hp hc hi hg hb hs)) fun D σ H q => lockG_of wk (T := fun wi => tFor wi _ _) (fun it D σ H q => for_of (fun i m => List.mem_append.mpr (.inl m)) (fun i m => List.mem_append.mpr (.inr m)) q) (fun wi D σ H => rfl) q
end
section
variable {E : Ev} {j : Nat} {Qe : Op × Ev → Prop} {Qs : Fl × Ev → Prop} {Qi : List D × Ev → Prop} {its : List (Key × D) → List D}
@[simp ↓] theorem W_rdI : W (rdI its j E) Qi ↔ W (eg E j) fun p => (match p with | (.dK kds, 0) => Qi (its kds, E) | _ => False) := by
  unfold rdI
  cases h : eg E j with
  | none => simp
  | some p =>
    obtain ⟨d, n⟩ := p
    cases d <;> cases n <;> simp
@[simp ↓] theorem W_lkF {F : Fi → Fe} : W (mLkF its j F E) Qe ↔ W (eg E j) fun p => (match p with | (.dK kds, _) => W (F (rdI its j) (E.set j (some (.dK kds, 0)))) Qe | _ => False) := by
  unfold mLkF
  cases h : eg E j with
  | none => simp
  | some p =>
    obtain ⟨d, n⟩ := p
    cases d <;> simp
@[simp ↓] theorem W_lkG {F : Fi → Fs} : W (mLkG its j F E) Qs ↔ W (eg E j) fun p => (match p with | (.dK kds, _) => W (F (rdI its j) (E.set j (some (.dK kds, 0)))) Qs | _ => False) := by
  unfold mLkG
  cases h : eg E j with
  | none => simp
  | some p =>
    obtain ⟨d, n⟩ := p
    cases d <;> simp
theorem keysD_dI (m : List (Int × Int)) : keysD (m.map fun p => ((Sum.inl p.1 : Key), D.int p.2)) = m.map fun p => D.int p.1 := by
  unfold keysD
  rw [List.map_map]
  rfl
end
end Zk
namespace Zk
open PySem PySem.Spec PyProof.Rows L2
section
variable {K : PySem.W.Frag} {X : Cx}
def rLenD : List V → Hp → VK → Prop := fun xs H Q => ∃ d kvs, xs = [V.ref d] ∧ Rd H d (.dK kvs) ∧ Q (.int kvs.length) H
theorem cr_lenD : CallR X (.builtin "len") rLenD := by
  intro pins s σ H xs us Q I r h
  obtain ⟨d, kvs, rfl, hd, q⟩ := h
  rw [Vals.ref1 r]
  exact d_len I hd fun t s' I' => ⟨.int _, H, I', ⟨_, rfl⟩, q⟩
def gLenD : List D → Option (D × Nat)
  | [.dK kds] => some (.int kds.length, 9)
  | _ => none
theorem al_lenD : AL K rLenD gLenD := by
  intro Z H vs ds d n Q hz k e q
  unfold gLenD at e
  split at e
  · rename_i kds
    cases e
    obtain ⟨x, rfl, a, kvs, rfl, hd, kr⟩ := k.one
    refine ⟨a, kvs, rfl, hd, ?_⟩
    have hl : kvs.length = kds.length := by
      have := congrArg List.length kr.1
      simpa using this
    rw [hl]
    exact fin_imm (Z := Z) (.int _) (by simp) q
  · cases e
theorem gLenD_dK (kds : List (Key × D)) : gLenD [.dK kds] = some (.int (kds.length : Nat), 9) := rfl
@[simp] theorem gLenD_dI (m : List (Int × Int)) : gLenD [dI m] = some (.int (m.length : Nat), 9) := by
  unfold dI
  rw [gLenD_dK, List.length_map]
end
end Zk
namespace Zk
open PySem PySem.Spec PyProof.Rows L2
section
variable {X : Cx}
end
section
variable {K : PySem.W.Frag}
variable {X : Cx} {a b : Expr} {fa fb : Fe} {apos cpos : PySem.Pos}
end
end Zk
namespace Zk
open PySem PySem.Spec PyProof.Rows L2
def dropD {κ : Type} [DecidableEq κ] (kvs : List (κ × D)) (k : κ) : List (κ × D) := kvs.filter fun kv => decide (kv.1 ≠ k)
theorem imms_drop {κ : Type} [DecidableEq κ] {kds : List (κ × D)} {k : κ} : imms (kds.map (·.2)) = true → imms ((dropD kds k).map (·.2)) = true := by
  intro h
  rw [imms_all] at h ⊢
  refine List.all_eq_true.mpr fun d hd => ?_
  obtain ⟨p, hp, rfl⟩ := List.mem_map.mp hd
  exact List.all_eq_true.mp h _ (List.mem_map.mpr ⟨p, (List.mem_filter.mp hp).1, rfl⟩)
section
variable {K : PySem.W.Frag} {Z Z' Z0 : Addr → Prop} {H H' H0 : Hp} {σ : L2.St} {E E' : Ev} {R R0 : Nat → List Addr}
theorem KR.drop {κ : Type} [DecidableEq κ] (k : κ) : ∀ {kvs : List (κ × V)} {kds : List (κ × D)}, KR K Z H kvs kds → KR K Z H (dropK kvs k) (dropD kds k) := by
  intro kvs
  induction kvs with
  | nil =>
    intro kds h
    rcases h.cases with ⟨_, rfl⟩ | ⟨_, _, _, _, _, e, _⟩
    · exact .nil
    · cases e
  | cons p r ih =>
    intro kds h
    rcases h.cases with ⟨e, _⟩ | ⟨k', v', d', r', s, e, rfl, h1, h2⟩
    · cases e
    · cases e
      have := ih h2
      unfold dropK dropD at this ⊢
      rw [List.filter_cons, List.filter_cons]
      by_cases c : k' = k
      · rw [if_neg (by simp [c]), if_neg (by simp [c])]; exact this
      · rw [if_pos (by simp [c]), if_pos (by simp [c])]; exact .cons h1 this
theorem S.ddel (s : S K Z H σ E R) (t0 : Step Z0 H0 (ow R0) Z H (ow R)) {i : Nat} {kds : List (Key × D)} {n : Nat} (e : eg E i = some (.dK kds, n + 1)) (k : Key) (hi : imms (kds.map (·.2)) = true) :
    ∃ a kvs, σ[i]? = some (some (.ref a)) ∧ H a = some (.dK kvs) ∧ KR K Z H kvs kds ∧ ∃ Zf rs', S K Zf (upd H a (.dK (dropK kvs k))) σ (E.set i (some (.dK (dropD kds k), n + 1))) (put R i rs') ∧
      Step Z0 H0 (ow R0) Zf (upd H a (.dK (dropK kvs k))) (ow (put R i rs')) := by
  obtain ⟨w, e1, o1⟩ := s.slot i _ _ e
  obtain ⟨a, kvs, rfl, ha, nz, aR, kr, kri⟩ := (o1.dE (s.nd i)).1 kds rfl
  refine ⟨a, kvs, e1, ha, kri hi, ?_⟩
  have pz : Pers Z H Z (upd H a (.dK (dropK kvs k))) := ⟨fun _ h => h, fun b o z e => by
    have ne : b ≠ a := fun e2 => nz (by rw [← e2]; exact z)
    rw [upd_ne ne]; exact e, fun b o e n => by
    have ne : b ≠ a := fun e2 => n (by rw [e2, ha] at e; cases e; trivial)
    rw [upd_ne ne]; exact e⟩
  have kr2 := (kri hi).drop k
  have kr3 : KR K Z (upd H a (.dK (dropK kvs k))) (dropK kvs k) (dropD kds k) := ⟨kr2.1, kr2.2.pers pz⟩
  have mk : ∀ {Z : Addr → Prop} {H : Hp} {a : Addr} {kvs : List (Key × V)} {kds : List (Key × D)} {m : Nat}, H a = some (.dK kvs) → ¬ Z a → kvs.map (·.1) = kds.map (·.1) → All3 (Own K Z H m) (kvs.map (·.2)) (kds.map (·.2)) ((kds.map (·.2)).map fun _ => []) → Own K Z H (m + 1) (.ref a) (.dK kds) [a] := fun {Z H a kvs kds m} h z e al => ⟨a, kvs, _, rfl, h, z, e, al, by rw [flat_nils]⟩
  have new := mk (Z := Z) (m := n) (upd_same (H := H) (a := a)) nz kr3.1 (All3.ofRpsI kr3.2 (imms_drop hi))
  have inR : ∀ b ∈ [a], b ∈ R i ∨ b ∈ ([] : List Addr) := fun b m => by
    have e : b = a := by simpa using m
    exact .inl (by rw [e]; exact aR)
  exact ⟨Z, [a], s.write t0 (ts := []) (eg_lt e) e1 aR new (fun _ h => h) (fun b z => .inl z) inR (by simp) (fun b m => by simp at m) (fun b m => by simp at m) fun b m => by simp at m⟩
/-- del x[k] of a dict with unchangeable values -/
def delAt (E : Ev) (x : Nat) (k : D) : Option Ev := match eg E x with
  | some (.dK kds, n + 1) => (keyOf k).bind fun k => if (valD kds k).isSome = true ∧ imms (kds.map (·.2)) = true then some (E.set x (some (.dK (dropD kds k), n + 1))) else none
  | _ => none
def mDel (x : Nat) (fk : Fe) : Fs := fun E => if (eg E x).isSome = true then (fk E).bind fun pk => (rd pk.2 pk.1).bind fun k => (delAt pk.2 x k).map fun E' => (.nx, E') else none
theorem del_of {x : Nat} {fk : Fe} {w : List Nat} {D : Ends} (q : sOf K w (mDel x fk) D σ H) : ∃ y, σ[x]? = some (some y) ∧ eOf K fk σ H fun kv H2 => ∃ a kvs k, y = .ref a ∧ H2 a = some (.dK kvs) ∧ kv = kV k ∧ (valV kvs k).isSome = true ∧ D.nx σ (upd H2 a (.dK (dropK kvs k))) := by
  obtain ⟨Z, E, R, s, fl, E', e, q⟩ := q
  unfold mDel at e
  split at e
  · rename_i hs
    cases e2 : fk E with
    | none => rw [e2] at e; cases e
    | some p2 =>
      obtain ⟨o2, E2⟩ := p2
      rw [e2] at e
      simp only [Option.bind_some] at e
      cases e3 : rd E2 o2 with
      | none => rw [e3] at e; cases e
      | some k =>
        rw [e3] at e
        simp only [Option.bind_some] at e
        cases e5 : delAt E2 x k with
        | none => rw [e5] at e; cases e
        | some E5 =>
          rw [e5] at e
          cases e
          cases g : eg E x with
          | none => rw [g] at hs; simp at hs
          | some dn =>
            obtain ⟨y, ey, _⟩ := s.slot x dn.1 dn.2 g
            refine ⟨y, ey, Z, E, R, s, o2, E2, e2, fun kv Z2 H2 R2 rs2 s2 t2 ov2 f2 => ?_⟩
            have rk := s2.read ov2 e3
            unfold delAt at e5
            split at e5
            · rename_i kds n g2
              cases ek : keyOf k with
              | none => rw [ek] at e5; cases e5
              | some k' =>
                rw [ek] at e5
                simp only [Option.bind_some] at e5
                split at e5
                · rename_i hv
                  cases e5
                  obtain ⟨a, kvs, h1, h2, h3, Zf, rs', s', t'⟩ := s2.ddel t2 g2 k' hv.2
                  rw [ey] at h1
                  cases h1
                  cases key_kV rk ek
                  refine ⟨a, kvs, k', rfl, h2, rfl, ?_, q σ Zf _ _ s' t' fun _ _ => rfl⟩
                  rcases h3.val k' with ⟨_, z⟩ | ⟨v, d, z1, _, _⟩
                  · rw [z] at hv; simp at hv
                  · rw [z1]; rfl
                · cases e5
            · cases e5
  · cases e
end
section
variable {X : Cx} {e : Expr} {fk : Fe} {pos : PySem.Pos}
theorem as_del (j : Nat) {x : Str} {px pt : PySem.Pos} (hk : AE X e fk) (hN : X.N[j]? = some x := by rfl) (hvis : Vis X.env.scope x := by first | exact Or.inl rfl | exact Or.inr (Or.inl rfl) | exact Or.inr (Or.inr rfl))
    (hd : (x == ("__debug__" : Str)) = false := by decide) (hcd : (x == ("__classdict__" : Str)) = false := by decide) : AS X (.Delete [.Subscript (.Name x px) e pt] pos) [] (mDel j fk) :=
  PS.mono (ps_ddel (pe_var hN hvis hd hcd) hk) fun D σ H q => del_of q
end
section
variable {E : Ev} {fk : Fe} {j : Nat} {Qs : Fl × Ev → Prop}
@[simp ↓] theorem W_del : W (mDel j fk E) Qs ↔ (eg E j).isSome = true ∧ W (fk E) fun pk => W (rd pk.2 pk.1) fun k => W (delAt pk.2 j k) fun E' => Qs (.nx, E') := by
  unfold mDel
  exact W_if1.trans (and_congr_right fun _ => W_bind.trans (W_ext fun _ => W_bind.trans (W_ext fun _ => W_map)))
@[simp ↓] theorem W_delAt {k : D} {Q : Ev → Prop} : W (delAt E j k) Q ↔ W (eg E j) fun p => (match p with
    | (.dK kds, n + 1) => W (keyOf k) fun k => ((valD kds k).isSome = true ∧ imms (kds.map (·.2)) = true) ∧ Q (E.set j (some (.dK (dropD kds k), n + 1)))
    | _ => False) := by
  unfold delAt
  cases h : eg E j with
  | none => simp
  | some p =>
    obtain ⟨d, n⟩ := p
    rw [W_some]
    cases d with
    | dK kds =>
      cases n with
      | zero => simp
      | succ n => exact W_bind.trans (W_ext fun _ => W_if1.trans (and_congr_right fun _ => W_some))
    | _ => simp
end
end Zk
namespace Zk
open PySem PySem.Spec PyProof.Rows L2
def minP : List (Int × Int) → Int × Int
  | [] => (0, 0)
  | p :: ps => PySem.W.minOf p ps
section
variable {X : Cx} {K : PySem.W.Frag}
def PrAt (H : Hp) (x : V) : Prop := ∃ t, x = V.ref t ∧ H t = some (.tup [.int (kOf H x).1, .int (kOf H x).2])
theorem holds_pr {pins : List (Addr × Obj)} {σ : L2.St} {H : Hp} {s : Shared} (I : Inv X pins σ H s) {x : V} {v : Value} (r : RelV x v) (h : PrAt H x) : PySem.W.Holds s.heap v (kOf H x) := by
  obtain ⟨t, rfl, ht⟩ := h
  cases r
  obtain ⟨its, rv, hT, _⟩ := I.tuple (xs := [.int (kOf H (.ref t)).1, .int (kOf H (.ref t)).2]) (a := t) (.inl (.inl ht))
  cases rv with
  | cons r1 rt =>
    cases rt with
    | cons r2 rt =>
      cases rt
      obtain ⟨t1, rfl⟩ := r1
      obtain ⟨t2, rfl⟩ := r2
      exact PySem.W.holds_pair hT (PySem.W.holds_int _ _) (PySem.W.holds_int _ _)
theorem holds_prs {pins : List (Addr × Obj)} {σ : L2.St} {H : Hp} {s : Shared} (I : Inv X pins σ H s) : ∀ {xs : List V} {its : List Value}, Vals xs its → (∀ x ∈ xs, PrAt H x) → PySem.W.HoldAll s.heap its (xs.map (kOf H))
  | _, _, .nil, _ => PySem.W.HoldAll.nil
  | _, _, .cons r t, h => PySem.W.HoldAll.cons (holds_pr I r (h _ List.mem_cons_self)) (holds_prs I t fun x m => h x (List.mem_cons_of_mem _ m))
theorem holds_one {h : Heap} {v : Value} {p q : Int × Int} (a : PySem.W.Holds h v p) (b : PySem.W.Holds h v q) : p = q := by
  obtain ⟨as, ra⟩ := a
  obtain ⟨bs, rb⟩ := b
  have e := SeqAt.Reads.unique _ _ _ _ _ (show PyData.canLay0 (.tuple [.int p.1, .int p.2]) = true by simp [PyData.canLay0, PyData.canLayAll0]) ra rb
  have e' : PyData.tuple [.int p.1, .int p.2] = PyData.tuple [.int q.1, .int q.2] := e
  simp only [PyData.tuple.injEq, List.cons.injEq, PyData.int.injEq, and_true] at e'
  exact Prod.ext e'.1 e'.2
theorem vals_back : ∀ {xs : List V} {us : List Value} {i : Nat} {u : Value}, Vals xs us → us[i]? = some u → ∃ x, xs[i]? = some x ∧ RelV x u
  | _, _, _, _, .nil, e => by simp at e
  | _, _, 0, _, .cons r t, e => ⟨_, rfl, by simp at e; rw [← e]; exact r⟩
  | _, _, i + 1, _, .cons r t, e => by
    obtain ⟨x, h1, h2⟩ := vals_back (i := i) t (by simpa using e)
    exact ⟨x, by simpa using h1, h2⟩
def rMinP (K : PySem.W.Frag) : List V → Hp → VK → Prop := fun vs H Q => ∃ (a : Addr) (xs : List V), vs = [V.ref a] ∧ SqL K H a xs ∧ (∀ x ∈ xs, PrAt H x) ∧ xs ≠ [] ∧ ∀ x ∈ xs, kOf H x = minP (xs.map (kOf H)) → Q x H
theorem cr_minP (hc : X.calm = true) (hu : X.A.units + 64 < cLine) : CallR X (.builtin "min") (rMinP X.K) := by
  intro pins s σ H vs us Q I r h
  obtain ⟨a, xs, rfl, hs, hx, hne, q⟩ := h
  obtain ⟨its, rv, hl, _⟩ := I.list hs
  rw [Vals.ref1 r]
  have ha := holds_prs I rv hx
  cases xs with
  | nil => exact absurd rfl hne
  | cons x xs =>
    refine PySem.W.min_list_datum (x := kOf H x) (xs := xs.map (kOf H)) (I.ok.hd hc) hl.isList ha (by show X.A.units + 1 + _ < _; have z : PySem.W.Datum.depth (Int × Int) = 1 := rfl; rw [z]; omega) fun i v h' tk hv hm hk => ?_
    obtain ⟨y, hy, ry⟩ := vals_back (i := i) rv (by simpa using hv)
    have my := List.mem_of_getElem? hy
    have h1 := (holds_pr I ry (hx y my)).keeps hk
    have e := holds_one h1 hm
    exact ⟨y, H, I.kept hk, ry, q y my e⟩
def gMinP : List D → Option (D × Nat)
  | [.lst ds] => (pof ds).bind fun ps => if ps = [] then none else some (prD (minP ps), 9)
  | _ => none
theorem rp_pr {Z : Addr → Prop} {H : Hp} {x : V} (h : PrAt H x) : Rp K Z H x (prD (kOf H x)) := by
  obtain ⟨t, rfl, ht⟩ := h
  exact .tup ht (.cons (.int _) (.cons (.int _) .nil))
theorem al_minP : AL K (rMinP K) gMinP := by
  intro Z H vs ds d n Q hz k e q
  unfold gMinP at e
  split at e
  · rename_i ds
    cases e1 : pof ds with
    | none => rw [e1] at e; cases e
    | some ps =>
      rw [e1] at e
      simp only [Option.bind_some] at e
      split at e
      · cases e
      · rename_i hne
        cases e
        cases pof_eq e1
        obtain ⟨x, rfl, ⟨p, xs, rfl, hp, r⟩⟩ := k.one
        obtain ⟨ek, hx⟩ := r.pairs
        refine ⟨p, xs, rfl, .inl (.inl hp), hx, fun z => hne (by rw [← ek, z]; rfl), fun y hy e2 => ?_⟩
        have ry := rp_pr (K := K) (Z := Z) (hx y hy)
        rw [e2, ek] at ry
        exact fin_imm (Z := Z) ry (by simp [prD]) q
  · cases e
end
end Zk
namespace Zk
open PySem PySem.Spec PyProof.Rows L2
section
variable {β : Type} {f : β → D}
def getV (m : List (Int × β)) (k : Int) : Option β := (m.find? fun p => decide (p.1 = k)).map (·.2)
def putV (m : List (Int × β)) (k : Int) (v : β) : List (Int × β) := if (m.any fun p => decide (p.1 = k)) = true then m.map (fun p => if p.1 = k then (p.1, v) else p) else m ++ [(k, v)]
def delV (m : List (Int × β)) (k : Int) : List (Int × β) := m.filter fun p => decide (p.1 ≠ k)
def dVk (f : β → D) (m : List (Int × β)) : List (Key × D) := m.map fun p => ((Sum.inl p.1 : Key), f p.2)
def dV (f : β → D) (m : List (Int × β)) : D := .dK (dVk f m)
theorem dV_nil (f : β → D) : D.dK [] = dV f [] := rfl
@[simp] theorem imm_dV (m : List (Int × β)) : imm (dV f m) = false := by simp [dV]
@[simp] theorem isDct_dV (m : List (Int × β)) : isDct (dV f m) = true := rfl
theorem imms_dV (hf : ∀ b, imm (f b) = true) (m : List (Int × β)) : imms ((dVk f m).map (·.2)) = true := by
  unfold dVk
  rw [List.map_map]
  exact imms_map' (fun p => hf p.2) m
theorem valD_dV (m : List (Int × β)) (k : Int) : valD (dVk f m) (Sum.inl k) = (getV m k).map f := by
  unfold valD getV dVk
  induction m with
  | nil => rfl
  | cons p m ih =>
    simp only [List.map_cons, List.find?_cons]
    by_cases h : p.1 = k
    · simp [h]
    · simp only [h, Sum.inl.injEq, decide_false]
      simpa using ih
theorem putD_dV (m : List (Int × β)) (k : Int) (v : β) : putD (dVk f m) (Sum.inl k) (f v) = dVk f (putV m k v) := by
  unfold dVk
  have e : ((m.map fun p => ((Sum.inl p.1 : Key), f p.2)).any fun kv => decide (kv.1 = Sum.inl k)) = m.any fun p => decide (p.1 = k) := by
    rw [List.any_map]
    congr 1
    funext p
    simp
  unfold putD putV
  rw [e]
  split
  · rw [List.map_map, List.map_map]
    apply List.map_congr_left
    intro p hp
    simp only [Function.comp_apply, Sum.inl.injEq]
    split <;> rfl
  · simp
theorem dropD_dV (m : List (Int × β)) (k : Int) : dropD (dVk f m) (Sum.inl k) = dVk f (delV m k) := by
  unfold dropD dVk delV
  rw [List.filter_map]
  congr 1
  refine List.filter_congr fun p _ => ?_
  simp
@[simp] theorem look_dV (m : List (Int × β)) (k : Int) : look (dV f m) (.int k) = some ((getV m k).map f) := by
  simp only [dV, look, keyOf, Option.map_some, valD_dV]
@[simp] theorem gIxd_dV (m : List (Int × β)) (k : Int) : gIxd [dV f m, .int k] = (getV m k).map fun v => (f v, 0) := by
  have e : gIxd [dV f m, .int k] = gDg [dV f m, .int k] := rfl
  rw [e]
  simp only [gDg, look_dV, Option.bind_some]
  cases getV m k <;> rfl
@[simp] theorem gInA_dV (neg : Bool) (m : List (Int × β)) (k : Int) : gInA neg [.int k, dV f m] = some (.bl ((getV m k).isSome ^^ neg), 9) := by
  have e : gInA neg [.int k, dV f m] = gInD neg [.int k, dV f m] := rfl
  rw [e]
  simp only [gInD, look_dV, Option.map_some]
  cases getV m k <;> rfl
theorem putOf_dV (hf : ∀ b, imm (f b) = true) (m : List (Int × β)) (n nv : Nat) (k : Int) (v : β) : putOf (dV f m, n + 1) (.int k) (f v) nv = if m.length < sizeLine then some (dV f (putV m k v), n + 1) else none := by
  have e : putOf (dV f m, n + 1) (.int k) (f v) nv = (keyOf (.int k)).bind fun k' => if (dVk f m).length < sizeLine then some (.dK (putD (dVk f m) k' (f v)), updl (n + 1) (dVk f m) (f v)) else none := rfl
  rw [e]
  have u : updl (n + 1) (dVk f m) (f v) = n + 1 := by
    unfold updl
    rw [if_pos ⟨imms_dV hf m, hf v⟩]
  have l : (dVk f m).length = m.length := by simp [dVk]
  simp only [keyOf, Option.bind_some, putD_dV, u, l]
  rfl
theorem W_delV (hf : ∀ b, imm (f b) = true) {E : Ev} {j n : Nat} {m : List (Int × β)} {k : Int} (g : eg E j = some (dV f m, n + 1)) (h : (getV m k).isSome = true) {Q : Ev → Prop} (q : Q (E.set j (some (dV f (delV m k), n + 1)))) : W (delAt E j (.int k)) Q := by
  rw [W_delAt, g, W_some]
  show W (keyOf (.int k)) _
  rw [show keyOf (.int k) = some (Sum.inl k) from rfl, W_some, dropD_dV]
  refine ⟨⟨?_, imms_dV hf m⟩, q⟩
  rw [valD_dV]
  cases e : getV m k with
  | none => rw [e] at h; cases h
  | some v => rfl
theorem keyI_dV (m : List (Int × β)) : keyI (dVk f m) = some (m.map (·.1)) := by
  unfold dVk
  induction m with
  | nil => rfl
  | cons p m ih => simp [keyI, ih]
@[simp] theorem gSrt1_dV (m : List (Int × β)) : gSrt1 [dV f m] = some (.lst ((srt (m.map (·.1))).map D.int), 9) := by
  have e : gSrt1 [dV f m] = gSrtD [.dK (dVk f m)] := rfl
  rw [e]
  simp only [gSrtD, keyI_dV, Option.map_some]
@[simp] theorem gLenD_dV (m : List (Int × β)) : gLenD [dV f m] = some (.int (m.length : Nat), 9) := by
  unfold dV
  rw [gLenD_dK]
  simp [dVk]
theorem itmD_dV (m : List (Int × β)) : itmD (dVk f m) = m.map fun p => D.tup [.int p.1, f p.2] := by
  unfold itmD dVk
  rw [List.map_map]; rfl
theorem getV_put (m : List (Int × β)) (k : Int) (v : β) (j : Int) : getV (putV m k v) j = if j = k then some v else getV m j := by
  unfold putV
  split
  · rename_i h
    unfold getV
    induction m with
    | nil => simp at h
    | cons p m ih =>
      simp only [List.map_cons, List.find?_cons]
      by_cases h1 : p.1 = k
      · by_cases h2 : j = k
        · subst h2; simp [h1]
        · have h3 : ¬ k = j := fun e => h2 e.symm
          have h4 : ¬ p.1 = j := fun e => h2 (e ▸ h1)
          simp only [h1, if_true, if_neg h2, h3, decide_false]
          by_cases h5 : (m.any fun p => decide (p.1 = k)) = true
          · have := ih h5
            rw [if_neg h2] at this
            exact this
          · have e : m.map (fun p => if p.1 = k then (p.1, v) else p) = m := by
              conv => rhs; rw [← List.map_id m]
              apply List.map_congr_left
              intro q hq
              rw [if_neg]
              · rfl
              · intro e
                exact h5 (List.any_eq_true.mpr ⟨q, hq, by simp [e]⟩)
            rw [e]
      · have h5 : (m.any fun p => decide (p.1 = k)) = true := by simpa [h1] using h
        simp only [if_neg h1]
        by_cases h2 : p.1 = j
        · have h3 : ¬ j = k := fun e => h1 (h2.trans e)
          simp [h2, h3]
        · simp only [h2, decide_false]
          exact ih h5
  · rename_i h
    unfold getV
    rw [List.find?_append]
    by_cases h2 : j = k
    · subst h2
      have : m.find? (fun p => decide (p.1 = j)) = none := List.find?_eq_none.mpr fun p hp e => h (List.any_eq_true.mpr ⟨p, hp, e⟩)
      simp [this]
    · have h3 : ¬ k = j := fun e => h2 e.symm
      simp [h2, h3]
end
end Zk
namespace Zk
noncomputable section
open PySem PySem.Spec PyProof.Rows L2
end
end Zk
namespace Zk
noncomputable section
open PySem PySem.Spec PyProof.Rows L2
def v2 (p : Nat) (q : Nat × Nat) (k : Nat) : Nat := (q.1 + q.2 * k) % p
section
variable {p w : Nat} {R : List (Nat × Nat)}
end
end
end Zk
namespace Zk
noncomputable section
open PySem PySem.Spec PyProof.Rows L2
section
variable {p w : Nat} {R : List (Nat × Nat)}
end
end
end Zk
namespace Zk
noncomputable section
open PySem PySem.Spec PyProof.Rows L2
end
end Zk
namespace Zk
noncomputable section
open PySem PySem.Spec PyProof.Rows L2
section
variable {p w : Nat} {R : List (Nat × Nat)}
end
end
end Zk
namespace Zk
noncomputable section
open PySem PySem.Spec PyProof.Rows L2
end
end Zk
namespace Zk
noncomputable section
open PySem PySem.Spec PyProof.Rows L2
section
variable {p w : Nat} {R : List (Nat × Nat)}
end
end
end Zk
namespace Zk
noncomputable section
open PySem PySem.Spec PyProof.Rows L2
section
variable {p w : Nat}
/-- how many keys are told though they are not there, by a draw -/
def fcL (p w : Nat) (ks : List Nat) (q : Nat × Nat) (n : Nat) : List Nat := (List.range n).filter fun k => decide (k ∉ ks) && decide (∃ j ∈ ks, v2 p q j % w = v2 p q k % w)
def fc (p w : Nat) (ks : List Nat) (q : Nat × Nat) : Int := ((fcL p w ks q p).length : Nat)
end
end
end Zk
namespace Zk
noncomputable section
open PySem PySem.Spec PyProof.Rows L2
section
variable {p w : Nat}
end
end
end Zk
namespace Zk
noncomputable section
open PySem PySem.Spec PyProof.Rows L2
end
end Zk
namespace Zk
noncomputable section
open PySem PySem.Spec PyProof.Rows L2
/-- 0 + 1 + .. + (n - 1) -/
def tri2 : Nat → Nat
  | 0 => 0
  | n + 1 => tri2 n + n
/-- the part of place x behind n goes, by bases c and d -/
def PB (c d : Int) : Nat → Nat → Int
  | 0, x => if x = 0 then 1 else 0
  | n + 1, 0 => PB c d n 0 * (c ^ n - d ^ 0 * c ^ n)
  | n + 1, x + 1 => (if x + 1 ≤ n then PB c d n (x + 1) * (c ^ n - d ^ (x + 1) * c ^ (n - (x + 1))) else 0) + (if x ≤ n then PB c d n x * (d ^ x * c ^ (n - x)) else 0)
/-- half a turn: those up to j are told -/
def PBh (c d : Int) (n j x : Nat) : Int := (if x < j then PB c d n x * (c ^ n - d ^ x * c ^ (n - x)) else 0) + (if 1 ≤ x ∧ x ≤ j then PB c d n (x - 1) * (d ^ (x - 1) * c ^ (n - (x - 1))) else 0)
theorem PBh_0 (c d : Int) (n x : Nat) : PBh c d n 0 x = 0 := by
  unfold PBh
  rw [if_neg (by omega), if_neg (by omega)]; rfl
theorem PBh_last (c d : Int) (n x : Nat) : x < n + 2 → PBh c d n (n + 1) x = PB c d (n + 1) x := fun hx => by
  unfold PBh
  cases x with
  | zero => rw [if_pos (by omega), if_neg (by omega)]; simp [PB]
  | succ x =>
    rw [Nat.add_sub_cancel]
    show _ = (if x + 1 ≤ n then PB c d n (x + 1) * (c ^ n - d ^ (x + 1) * c ^ (n - (x + 1))) else 0) + (if x ≤ n then PB c d n x * (d ^ x * c ^ (n - x)) else 0)
    congr 1
    · by_cases h : x + 1 ≤ n
      · rw [if_pos (by omega), if_pos h]
      · rw [if_neg (by omega), if_neg h]
    · rw [if_pos ⟨by omega, by omega⟩, if_pos (by omega)]
/-- a step of the inner loop -/
theorem PBh_s (c d : Int) (n j : Nat) : (fun x => if x = j + 1 then (if j + 1 = j then PBh c d n j (j + 1) + PB c d n j * (c ^ n - d ^ j * c ^ (n - j)) else PBh c d n j (j + 1)) + PB c d n j * (d ^ j * c ^ (n - j)) else if x = j then PBh c d n j j + PB c d n j * (c ^ n - d ^ j * c ^ (n - j)) else PBh c d n j x) = PBh c d n (j + 1) := by
  funext x
  have nj : ¬ j + 1 = j := by omega
  rw [if_neg nj]
  unfold PBh
  by_cases h1 : x = j + 1
  · subst h1
    rw [if_pos rfl, if_neg (by omega), if_neg (by omega), if_neg (by omega), if_pos ⟨by omega, by omega⟩, Nat.add_sub_cancel]; omega
  · rw [if_neg h1]
    by_cases h2 : x = j
    · subst h2
      rw [if_pos rfl, if_neg (show ¬ x < x by omega), if_pos (show x < x + 1 by omega)]
      by_cases h3 : 1 ≤ x
      · rw [if_pos (show 1 ≤ x ∧ x ≤ x from ⟨h3, Nat.le_refl _⟩), if_pos (show 1 ≤ x ∧ x ≤ x + 1 from ⟨h3, Nat.le_succ _⟩)]; omega
      · rw [if_neg (show ¬ (1 ≤ x ∧ x ≤ x) from fun h => h3 h.1), if_neg (show ¬ (1 ≤ x ∧ x ≤ x + 1) from fun h => h3 h.1)]; omega
    · rw [if_neg h2]
      congr 1
      · by_cases h3 : x < j
        · rw [if_pos h3, if_pos (by omega)]
        · rw [if_neg h3, if_neg (by omega)]
      · by_cases h3 : 1 ≤ x ∧ x ≤ j
        · rw [if_pos h3, if_pos (by omega)]
        · rw [if_neg h3, if_neg (by omega)]
theorem sumN_at {n k : Nat} (h : k < n) {C : Int} : sumN n (fun x => if x = k then C else 0) = C := by
  have := sumN_one (n := n) (k := k) (f := fun _ => 1) h C
  rw [Int.mul_one] at this
  refine Eq.trans (sumN_congr fun x _ => ?_) this
  by_cases c : x = k
  · rw [if_pos c, if_pos c.symm, Int.mul_one]
  · rw [if_neg c, if_neg (Ne.symm c), Int.zero_mul]
/-- a sum over the parts of the next go -/
theorem PB_sum (c d : Int) (g : Nat → Int) (n : Nat) : sumN (n + 2) (fun x => PB c d (n + 1) x * g x) = sumN (n + 1) fun x => PB c d n x * ((c ^ n - d ^ x * c ^ (n - x)) * g x + d ^ x * c ^ (n - x) * g (x + 1)) := by
  have h : ∀ j, j ≤ n + 1 → sumN (n + 2) (fun x => PBh c d n j x * g x) = sumN j fun x => PB c d n x * ((c ^ n - d ^ x * c ^ (n - x)) * g x + d ^ x * c ^ (n - x) * g (x + 1)) := fun j => by
    induction j with
    | zero =>
      intro _
      rw [sumN_congr (g := fun _ => 0) fun x _ => by rw [PBh_0, Int.zero_mul]]
      exact sumN_zero fun _ _ => rfl
    | succ j ih =>
      intro hj
      have i := ih (by omega)
      have es : ∀ F : Nat → Int, sumN (j + 1) F = sumN j F + F j := fun F => rfl
      rw [es, ← i, ← PBh_s]
      have e : ∀ x, (if x = j + 1 then (if j + 1 = j then PBh c d n j (j + 1) + PB c d n j * (c ^ n - d ^ j * c ^ (n - j)) else PBh c d n j (j + 1)) + PB c d n j * (d ^ j * c ^ (n - j)) else if x = j then PBh c d n j j + PB c d n j * (c ^ n - d ^ j * c ^ (n - j)) else PBh c d n j x) * g x
          = PBh c d n j x * g x + ((if x = j then PB c d n j * (c ^ n - d ^ j * c ^ (n - j)) * g j else 0) + (if x = j + 1 then PB c d n j * (d ^ j * c ^ (n - j)) * g (j + 1) else 0)) := fun x => by
        rw [if_neg (show ¬ j + 1 = j by omega)]
        by_cases h1 : x = j + 1
        · subst h1
          rw [if_pos rfl, if_neg (by omega), if_pos rfl]; grind
        · by_cases h2 : x = j
          · subst h2
            rw [if_neg h1, if_pos rfl, if_pos rfl, if_neg h1]; grind
          · rw [if_neg h1, if_neg h2, if_neg h2, if_neg h1]; omega
      simp only [e]
      rw [sumN_add, sumN_add, sumN_at (by omega), sumN_at (by omega)]
      grind
  have := h (n + 1) (Nat.le_refl _)
  rw [← this]
  exact sumN_congr fun x hx => by rw [PBh_last c d n x hx]
theorem PB_one (c d : Int) : ∀ n, sumN (n + 1) (PB c d n) = c ^ tri2 n
  | 0 => by simp [sumN, PB, tri2]
  | n + 1 => by
    have h := PB_sum c d (fun _ => 1) n
    have e : ∀ x, PB c d n x * ((c ^ n - d ^ x * c ^ (n - x)) * 1 + d ^ x * c ^ (n - x) * 1) = c ^ n * PB c d n x := fun x => by grind
    simp only [e] at h
    rw [sumN_mul, PB_one c d n] at h
    simp only [Int.mul_one] at h
    rw [h, tri2, Int.pow_add]; grind
end
end Zk
namespace Zk
noncomputable section
open PySem PySem.Spec PyProof.Rows L2
theorem pow_le_l {a b : Int} (ha : 0 ≤ a) (h : a ≤ b) : ∀ n : Nat, a ^ n ≤ b ^ n
  | 0 => by simp
  | n + 1 => by
    rw [Int.pow_succ, Int.pow_succ]
    have h1 := pow_le_l ha h n
    have h2 : 0 ≤ a ^ n := Int.pow_nonneg ha
    exact Int.le_trans (Int.mul_le_mul_of_nonneg_right h1 ha) (Int.mul_le_mul_of_nonneg_left h (Int.le_trans h2 h1))
structure CD (c d : Int) : Prop where
  d1 : 1 ≤ d
  dc : d ≤ c
  c20 : c ≤ 2 ^ 20
section
variable {c d : Int}
theorem CD.c0 (h : CD c d) : 0 ≤ c := by have := h.d1; have := h.dc; omega
theorem CD.cp (h : CD c d) (n : Nat) : 1 ≤ c ^ n := by
  have : 0 < c ^ n := Int.pow_pos (by have := h.d1; have := h.dc; omega)
  omega
theorem CD.dp (h : CD c d) (n : Nat) : 1 ≤ d ^ n := by
  have : 0 < d ^ n := Int.pow_pos (by have := h.d1; omega)
  omega
theorem CD.dle (h : CD c d) (n : Nat) : d ^ n ≤ c ^ n := pow_le_l (by have := h.d1; omega) h.dc n
theorem CD.on (h : CD c d) {n x : Nat} (hx : x ≤ n) : 0 ≤ d ^ x * c ^ (n - x) ∧ d ^ x * c ^ (n - x) ≤ c ^ n := by
  have a1 : c ^ n = c ^ x * c ^ (n - x) := by rw [← Int.pow_add]; congr 1; omega
  have := h.cp (n - x)
  have := h.dp x
  refine ⟨Int.mul_nonneg (by omega) (by omega), ?_⟩
  rw [a1]
  exact Int.mul_le_mul_of_nonneg_right (h.dle x) (by omega)
theorem CD.cb (h : CD c d) {n : Nat} (hn : n ≤ 1000) : (c ^ n).natAbs ≤ 2 ^ 20000 := by
  have h1 : c ^ n ≤ (2 ^ 20) ^ n := pow_le_l h.c0 h.c20 n
  have h2 : ((2 : Int) ^ 20) ^ n = ((2 ^ (20 * n) : Nat) : Int) := by rw [← Int.pow_mul, Int.natCast_pow]; rfl
  have h3 : 2 ^ (20 * n) ≤ 2 ^ 20000 := Nat.pow_le_pow_right (by decide) (by omega)
  have := h.cp n
  generalize (2 : Nat) ^ 20000 = G at *
  omega
theorem PB_nn (h : CD c d) : ∀ n x, x ≤ n → 0 ≤ PB c d n x
  | 0, x, _ => by
    unfold PB
    split <;> omega
  | n + 1, 0, _ => by
    show 0 ≤ PB c d n 0 * (c ^ n - d ^ 0 * c ^ n)
    exact Int.mul_nonneg (PB_nn h n 0 (by omega)) (by rw [Int.pow_zero, Int.one_mul]; omega)
  | n + 1, x + 1, _ => by
    show 0 ≤ (if x + 1 ≤ n then PB c d n (x + 1) * (c ^ n - d ^ (x + 1) * c ^ (n - (x + 1))) else 0) + (if x ≤ n then PB c d n x * (d ^ x * c ^ (n - x)) else 0)
    refine Int.add_nonneg ?_ ?_
    · split
      · rename_i hx
        exact Int.mul_nonneg (PB_nn h n (x + 1) hx) (by have := (h.on hx).2; omega)
      · exact Int.le_refl _
    · split
      · rename_i hx
        exact Int.mul_nonneg (PB_nn h n x hx) (h.on hx).1
      · exact Int.le_refl _
theorem sumN_ge {f : Nat → Int} : ∀ {n : Nat}, (∀ i, i < n → 0 ≤ f i) → 0 ≤ sumN n f ∧ ∀ i, i < n → f i ≤ sumN n f
  | 0, _ => ⟨Int.le_refl _, fun i hi => absurd hi (Nat.not_lt_zero _)⟩
  | n + 1, h => by
    obtain ⟨h1, h2⟩ := sumN_ge (f := f) (n := n) fun i hi => h i (by omega)
    have h3 := h n (by omega)
    have e : sumN (n + 1) f = sumN n f + f n := rfl
    refine ⟨by omega, fun i hi => ?_⟩
    by_cases c : i = n
    · subst c; omega
    · have := h2 i (by omega); omega
theorem PB_le (h : CD c d) {n x : Nat} (hx : x ≤ n) : 0 ≤ PB c d n x ∧ PB c d n x ≤ c ^ tri2 n := by
  have := (sumN_ge (f := PB c d n) (n := n + 1) fun i hi => PB_nn h n i (by omega)).2 x (by omega)
  rw [PB_one] at this
  exact ⟨PB_nn h n x hx, this⟩
end
end
end Zk
namespace Zk
noncomputable section
open PySem PySem.Spec PyProof.Rows L2
section
variable {c d : Int} {n : Nat}
theorem CD.ca (h : CD c d) {j : Nat} (hj : j ≤ 40) : (c ^ j).natAbs ≤ 2 ^ 800 := by
  have h1 : c ^ j ≤ (2 ^ 20) ^ j := pow_le_l h.c0 h.c20 j
  have h2 : ((2 : Int) ^ 20) ^ j = ((2 ^ (20 * j) : Nat) : Int) := by rw [← Int.pow_mul, Int.natCast_pow]; rfl
  have h3 : 2 ^ (20 * j) ≤ 2 ^ 800 := Nat.pow_le_pow_right (by decide) (by omega)
  have := h.cp j
  generalize (2 : Nat) ^ 800 = G at *
  omega
theorem CD.pa (h : CD c d) (hT : (c ^ tri2 n).natAbs ≤ 2 ^ 6000) {x : Nat} (hx : x ≤ n) : (PB c d n x).natAbs ≤ 2 ^ 6000 := by
  have h1 := PB_le h hx
  refine Nat.le_trans ?_ hT
  omega
theorem cd21 : CD 2 1 := ⟨by decide, by decide, by decide⟩
theorem CD.self (h : CD c d) : CD d d := ⟨h.d1, Int.le_refl _, by have := h.dc; have := h.c20; omega⟩
end
end
end Zk
namespace Zk
noncomputable section
open PySem PySem.Spec PyProof.Rows L2
section
variable {m : Nat} {c : Nat → Nat → Int}
end
end
end Zk
namespace Zk
noncomputable section
open PySem PySem.Spec PyProof.Rows L2
section
variable {m : Nat} {st : List (Int × Int)}
end
end
end Zk
namespace Zk
noncomputable section
open PySem PySem.Spec PyProof.Rows L2
section
variable {st : List (Int × Int)} {m k : Nat}
end
end
end Zk
namespace Zk
noncomputable section
open PySem PySem.Spec PyProof.Rows L2
section
variable {c d : Int} {n : Nat}
end
end
end Zk
namespace Zk
noncomputable section
open PySem PySem.Spec PyProof.Rows L2
section
variable {n : Nat}
end
section
variable {p : Nat}
end
end
end Zk
namespace Zk
noncomputable section
open PySem PySem.Spec PyProof.Rows L2
section
variable {p : Nat}
end
end
end Zk
namespace Zk
noncomputable section
open PySem PySem.Spec PyProof.Rows L2
end
end Zk
namespace Zk
noncomputable section
open PySem PySem.Spec PyProof.Rows L2
end
end Zk
namespace Zk
noncomputable section
open PySem PySem.Spec PyProof.Rows L2
end
end Zk
namespace Zk
noncomputable section
open PySem PySem.Spec PyProof.Rows L2
section
variable {m b : Nat}
theorem pm_lt : ∀ m, m ≤ 4 → ∀ a, a < 2 ^ m → ∀ b, b < 2 ^ m → pm m a b < 2 ^ m := by decide +kernel
end
end
end Zk
namespace Zk
noncomputable section
open PySem PySem.Spec PyProof.Rows L2
section
variable {m b : Nat}
end
end
end Zk
namespace Zk
noncomputable section
open PySem PySem.Spec PyProof.Rows L2
end
end Zk
namespace Zk
noncomputable section
open PySem PySem.Spec PyProof.Rows L2
def em (D w : Nat) : Rat := Rat.divInt ((w : Int) * ((w : Int) - 1) ^ D) ((w : Int) ^ D)
end
end Zk
namespace Zk
noncomputable section
open PySem PySem.Spec PyProof.Rows L2
end
end Zk
namespace Zk
section
variable {α : Type} [Lean.Grind.CommRing α]
end
end Zk
namespace Zk
/-- the parts of a commutative ring -/
structure RD (α : Type) where
  z : α
  o : α
  ad : α → α → α
  mu : α → α → α
  ne : α → α
  ac : ∀ a b, ad a b = ad b a
  aa : ∀ a b c, ad (ad a b) c = ad a (ad b c)
  za : ∀ a, ad z a = a
  na : ∀ a, ad (ne a) a = z
  mc : ∀ a b, mu a b = mu b a
  ma : ∀ a b c, mu (mu a b) c = mu a (mu b c)
  om : ∀ a, mu o a = a
  md : ∀ a b c, mu a (ad b c) = ad (mu a b) (mu a c)
  zm : ∀ a, mu z a = z
namespace RD
variable {α : Type} (R : RD α)
def nat : Nat → α
  | 0 => R.z
  | n + 1 => R.ad (nat n) R.o
def int : Int → α
  | .ofNat n => R.nat n
  | .negSucc n => R.ne (R.nat (n + 1))
def pow (a : α) : Nat → α
  | 0 => R.o
  | n + 1 => R.mu (pow a n) a
theorem az (a : α) : R.ad a R.z = a := by rw [R.ac, R.za]
theorem nat1 : R.nat 1 = R.o := R.za _
theorem canc {a b c : α} (h : R.ad a b = R.ad a c) : b = c := by
  have := congrArg (R.ad (R.ne a)) h
  rwa [← R.aa, ← R.aa, R.na, R.za, R.za] at this
theorem an (a : α) : R.ad a (R.ne a) = R.z := by rw [R.ac, R.na]
theorem nn (a : α) : R.ne (R.ne a) = a := R.canc (a := R.ne a) (by rw [R.an, R.na])
theorem nz : R.ne R.z = R.z := R.canc (a := R.z) (by rw [R.an, R.za])
theorem nm (a b : α) : R.mu (R.ne a) b = R.ne (R.mu a b) := R.canc (a := R.mu a b) (by
  rw [R.an, R.mc a b, R.mc (R.ne a) b, ← R.md, R.an, R.mc, R.zm])
theorem int_neg : ∀ i : Int, R.int (-i) = R.ne (R.int i)
  | .ofNat 0 => (R.nz).symm
  | .ofNat (n + 1) => rfl
  | .negSucc n => (R.nn _).symm
@[reducible] def ring : Lean.Grind.CommRing α :=
  letI : Lean.Grind.Semiring α :=
    { add := R.ad, mul := R.mu, natCast := ⟨R.nat⟩, ofNat := fun n => ⟨R.nat n⟩, nsmul := ⟨fun n a => R.mu (R.nat n) a⟩, npow := ⟨fun a n => R.pow a n⟩
      add_zero := R.az, add_comm := R.ac, add_assoc := R.aa, mul_assoc := R.ma
      mul_one := fun a => by show R.mu a (R.nat 1) = a; rw [R.nat1, R.mc, R.om]
      one_mul := fun a => by show R.mu (R.nat 1) a = a; rw [R.nat1, R.om]
      left_distrib := R.md
      right_distrib := fun a b c => by show R.mu (R.ad a b) c = R.ad (R.mu a c) (R.mu b c); rw [R.mc, R.md, R.mc c a, R.mc c b]
      zero_mul := R.zm
      mul_zero := fun a => by show R.mu a R.z = R.z; rw [R.mc, R.zm]
      pow_zero := fun a => by show R.o = R.nat 1; rw [R.nat1]
      pow_succ := fun a n => rfl
      ofNat_succ := fun n => by show R.ad (R.nat n) R.o = R.ad (R.nat n) (R.nat 1); rw [R.nat1] }
  letI : Lean.Grind.Ring α :=
    { neg := R.ne, sub := fun a b => R.ad a (R.ne b), intCast := ⟨R.int⟩, zsmul := ⟨fun i a => R.mu (R.int i) a⟩
      neg_add_cancel := R.na
      sub_eq_add_neg := fun _ _ => rfl
      neg_zsmul := fun i a => by show R.mu (R.int (-i)) a = R.ne (R.mu (R.int i) a); rw [R.int_neg, R.nm]
      intCast_neg := R.int_neg }
  { mul_comm := R.mc }
end RD
end Zk
namespace Zk
namespace Fd
theorem neg_lt : ∀ {F : Fd} {a : Nat}, F.ok → a < F.n → F.neg a < F.n
  | .prm q, a, h, _ => Nat.mod_lt _ h.1
  | .bin m, a, h, ha => ha
theorem neg_add : ∀ {F : Fd} {a : Nat}, F.ok → a < F.n → F.add (F.neg a) a = 0
  | .prm q, a, h, ha => by
    show ((q - a) % q + a) % q = 0
    have ha : a < q := ha
    rw [Nat.mod_add_mod, Nat.sub_add_cancel (by omega), Nat.mod_self]
  | .bin m, a, h, ha => Nat.xor_self a
/-- the members -/
abbrev M (F : Fd) := { a : Nat // a < F.n }
def rd (F : Fd) (h : F.ok) (h1 : 1 < F.n) : RD F.M where
  z := ⟨0, by omega⟩
  o := ⟨1, h1⟩
  ad a b := ⟨F.add a.1 b.1, add_lt h a.2 b.2⟩
  mu a b := ⟨F.mul a.1 b.1, mul_lt h a.2 b.2⟩
  ne a := ⟨F.neg a.1, neg_lt h a.2⟩
  ac a b := Subtype.ext (add_comm F _ _)
  aa a b c := Subtype.ext (add_assoc F _ _ _)
  za a := Subtype.ext (zero_add a.2)
  na a := Subtype.ext (neg_add h a.2)
  mc a b := Subtype.ext (mul_comm h a.2 b.2)
  ma a b c := Subtype.ext (mul_assoc h a.2 b.2 c.2)
  om a := Subtype.ext (one_mul h a.2)
  md a b c := Subtype.ext (mul_add h a.2 b.2 c.2)
  zm a := Subtype.ext (zero_mul h a.2)
/-- the power, as the program finds it -/
def fpw (F : Fd) : Nat → Nat → Nat → Nat → Nat
  | 0, r, _, _ => r
  | k + 1, r, a, e => if e = 0 then r else fpw F k (if e % 2 = 1 then F.mul r a else r) (F.mul a a) (e / 2)
def inv (F : Fd) (a : Nat) : Nat := fpw F 6 1 a (F.n - 2)
def all : List Fd := [.prm 2, .prm 3, .prm 5, .prm 7, .prm 11, .prm 13, .prm 17, .prm 19, .prm 23, .prm 29, .prm 31, .bin 1, .bin 2, .bin 3, .bin 4]
end Fd
end Zk
namespace Zk
noncomputable section
open PySem PySem.Spec PyProof.Rows L2
section
variable {F : Fd} {a b : Nat}
def Fd.sub (F : Fd) (a b : Nat) : Nat := F.add a (F.neg b)
end
end
end Zk
namespace Zk
noncomputable section
open PySem PySem.Spec PyProof.Rows L2
def lN (cs : List Nat) : D := .lst (cs.map fun c : Nat => D.int (c : Int))
section
variable {F : Fd} {a b : Nat}
end
end
end Zk
namespace Zk
section
variable {α : Type} [Lean.Grind.CommRing α]
end
end Zk
namespace Zk
noncomputable section
open PySem PySem.Spec PyProof.Rows L2
section
variable {F : Fd}
end
end
end Zk
namespace Zk
noncomputable section
open PySem PySem.Spec PyProof.Rows L2
section
variable {F : Fd}
end
end
end Zk
namespace Zk
noncomputable section
open PySem PySem.Spec PyProof.Rows L2
theorem gAdd_li (xs ys : List Int) (h : xs.length + ys.length ≤ 1000000) : gAdd [.lst (xs.map D.int), .lst (ys.map D.int)] = some (.lst ((xs ++ ys).map D.int), 9) := by
  have im := lev_ints (xs ++ ys)
  have i1 : imms (xs.map D.int) = true := imms_map' (fun _ => rfl) _
  have i2 : imms (ys.map D.int) = true := imms_map' (fun _ => rfl) _
  have sz : xs.length + ys.length ≤ sizeLine := by rw [sizeL]; omega
  rw [List.map_append]
  simp [gAdd, lev, i1, i2, sz]
end
end Zk
namespace Zk
noncomputable section
open PySem PySem.Spec PyProof.Rows L2
def S_as_countsb : Fs := (mRet (mOp gTuple (mAc (mLc (mSq (mSrt (mVar 0))) [1] (tgV 1) mYes (mTup (mAc (mVar 1) (mAc (mIxd (mVar 0) (mVar 1)) mA0)))) mA0)))
def S_as_counts : Mir := mDef none 2 S_as_countsb
def S_loweredb : Fs := (mRet (mLkF itmD 0 fun it => (mDcK it [2, 3] (tgT 2 (tgC (tgV 2) (tgC (tgV 3) tgN))) (mB (mGt (mVar 3) (mVar 1))) (mVar 2) (mSub (mVar 3) (mVar 1)))))
def S_lowered : Mir := mDef none 4 S_loweredb
def S_counter_summaryb : Fs := (mSeq (mSet 2 mDicK) (mSeq (mSet 3 (mC (.int 0))) (mSeq (mFor (mSq (mVar 0)) (tgT 2 (tgC (tgV 4) (tgC (tgV 5) tgN))) (mSeq (mPut 2 (mVar 4) (mAdd (mGet2 (mVar 2) (mVar 4) (mC (.int 0))) (mVar 5))) (mIfS (mB (mGt (mOp gLenD (mAc (mVar 2) mA0)) (mVar 1))) (mSeq (mSet 6 (mOp gMin (mAc (mVals (mVar 2)) mA0))) (mSeq (mSet 2 (mCall none S_lowered (mAc (mVar 2) (mAc (mVar 6) mA0)))) (mSet 3 (mAdd (mVar 3) (mVar 6))))) mNx))) (mRet (mTup (mAc (mCall none S_as_counts (mAc (mVar 2) mA0)) (mAc (mVar 3) mA0)))))))
def S_counter_summary : Mir := mDef none 7 S_counter_summaryb
def S_counter_boundsb : Fs := (mSeq (mAsg (tgT 2 (tgC (tgV 2) (tgC (tgV 3) tgN))) (mVar 0)) (mSeq (mSet 4 (mC (.int 0))) (mSeq (mFor (mSq (mVar 2)) (tgT 2 (tgC (tgV 5) (tgC (tgV 6) tgN))) (mIfS (mB (mEq (mVar 5) (mVar 1))) (mSet 4 (mVar 6)) mNx)) (mRet (mTup (mAc (mVar 4) (mAc (mAdd (mVar 4) (mVar 3)) mA0)))))))
def S_counter_bounds : Mir := mDef none 7 S_counter_boundsb
def S_law_cancelledb : Fs := (mSeq (mSet 2 mDicK) (mSeq (mSet 3 (mC (.int 0))) (mSeq (mFor (mSq (mVar 0)) (tgT 2 (tgC (tgV 4) (tgC (tgV 5) tgN))) (mSeq (mPut 2 (mVar 4) (mAdd (mGet2 (mVar 2) (mVar 4) (mC (.int 0))) (mVar 5))) (mIfS (mB (mGt (mOp gLenD (mAc (mVar 2) mA0)) (mVar 1))) (mSeq (mSet 6 (mOp gMin (mAc (mLkF keysD 2 fun it => (mLc it [7] (tgV 7) mYes (mIxd (mVar 2) (mVar 7)))) mA0))) (mSeq (mSet 3 (mAdd (mVar 3) (mVar 6))) (mSeq (mSet 8 mDicK) (mSeq (mLkG keysD 2 fun it => mFor it (tgV 7) (mIfS (mB (mGt (mIxd (mVar 2) (mVar 7)) (mVar 6))) (mPut 8 (mVar 7) (mSub (mIxd (mVar 2) (mVar 7)) (mVar 6))) mNx)) (mMov 2 8))))) mNx))) (mRet (mTup (mAc (mOp gTuple (mAc (mLc (mSq (mSrt (mVar 2))) [4] (tgV 4) mYes (mTup (mAc (mVar 4) (mAc (mIxd (mVar 2) (mVar 4)) mA0)))) mA0)) (mAc (mVar 3) mA0)))))))
def S_law_cancelled : Mir := mDef none 9 S_law_cancelledb
def S_law_summary_boundsb : Fs := (mSeq (mSet 2 (mCall none S_law_truth (mAc (mIxd (mVar 0) (mC (.int 0))) (mAc (mVar 1) mA0)))) (mRet (mTup (mAc (mVar 2) (mAc (mAdd (mVar 2) (mIxd (mVar 0) (mC (.int 1)))) mA0)))))
def S_law_summary_bounds : Mir := mDef none 3 S_law_summary_boundsb
def S_law_many_keysb : Fs := (mSeq (mSet 1 (mLst mA0)) (mSeq (mFor (mRg1 (mAdd (mC (.int 4)) (mCall (some 0) S_law_take (mAc (mVar 0) (mAc (mC (.int 9)) mA0))))) (tgV 2) (mSeq (mSet 3 (mCall (some 0) S_law_take (mAc (mVar 0) (mAc (mC (.int 1001)) mA0)))) (mIfS (mB (mNotIn (mVar 3) (mVar 1))) (mEx (mApp 1 (mVar 3))) mNx))) (mRet (mVar 1))))
def S_law_many_keys : Mir := mDef (some 0) 4 S_law_many_keysb
end
end Zk
namespace Zk.Bb
noncomputable section
open PySem PySem.Spec PyProof.Rows L2 Zk
/-- all counts less an amount, those above it -/
def lowI (m : List (Int × Int)) (a : Int) : List (Int × Int) := (m.filter fun p => decide (a < p.2)).map fun p => (p.1, p.2 - a)
/-- one member more -/
def cS (k : Int) (s : List (Int × Int) × Int) (p : Int × Int) : List (Int × Int) × Int :=
  let m := putI s.1 p.1 ((getI s.1 p.1).getD 0 + p.2)
  if k < m.length then (lowI m (minL (m.map (·.2))), s.2 + minL (m.map (·.2))) else (m, s.2)
def cSum (k : Int) (st : List (Int × Int)) : List (Int × Int) × Int := st.foldl (cS k) ([], 0)
def asC (m : List (Int × Int)) : List (Int × Int) := (srt (keysI m)).map fun k => (k, (getI m k).getD 0)
theorem lowI_keys (m : List (Int × Int)) (a : Int) : (keysI (lowI m a)).Sublist (keysI m) := by
  unfold keysI lowI
  rw [List.map_map]
  exact (List.filter_sublist (l := m)).map _
theorem putI_nd {m : List (Int × Int)} (h : (keysI m).Nodup) (k v : Int) : (keysI (putI m k v)).Nodup := by
  rw [keysI_put]
  split
  · exact h
  · rename_i hn
    rw [List.nodup_append]
    exact ⟨h, by simp, by intro x hx y hy e; simp at hy; subst hy e; exact hn hx⟩
theorem putI_len (m : List (Int × Int)) (k v : Int) : (putI m k v).length ≤ m.length + 1 := by
  have : (putI m k v).length = (keysI (putI m k v)).length := by simp [keysI]
  rw [this, keysI_put]
  have l2 : (keysI m).length = m.length := by simp [keysI]
  split
  · omega
  · simp; omega
theorem cS_inv (k : Int) (s : List (Int × Int) × Int) (p : Int × Int) (h : (keysI s.1).Nodup) : (keysI (cS k s p).1).Nodup ∧ (cS k s p).1.length ≤ s.1.length + 1 := by
  have h1 := putI_nd h p.1 ((getI s.1 p.1).getD 0 + p.2)
  have h2 := putI_len s.1 p.1 ((getI s.1 p.1).getD 0 + p.2)
  unfold cS
  simp only
  split
  · refine ⟨(lowI_keys _ _).nodup h1, ?_⟩
    refine Nat.le_trans ?_ h2
    unfold lowI
    rw [List.length_map]
    exact List.length_filter_le _ _
  · exact ⟨h1, h2⟩
theorem cSum_inv (k : Int) : ∀ st : List (Int × Int), (keysI (cSum k st).1).Nodup ∧ (cSum k st).1.length ≤ st.length := by
  intro st
  have : ∀ (st : List (Int × Int)) (s : List (Int × Int) × Int), (keysI s.1).Nodup → (keysI (st.foldl (cS k) s).1).Nodup ∧ (st.foldl (cS k) s).1.length ≤ s.1.length + st.length := by
    intro st
    induction st with
    | nil => intro s h; exact ⟨h, by simp⟩
    | cons p st ih =>
      intro s h
      obtain ⟨a, b⟩ := cS_inv k s p h
      obtain ⟨c, d⟩ := ih _ a
      exact ⟨c, by simp only [List.foldl_cons, List.length_cons]; omega⟩
  have := this st ([], 0) (by simp [keysI])
  simpa [cSum] using this
theorem cSum_app (k : Int) (a : List (Int × Int)) (p : Int × Int) : cSum k (a ++ [p]) = cS k (cSum k a) p := by simp [cSum]
/-- stores of keys that are new -/
theorem fold_new {α : Type} (kk vv : α → Int) : ∀ (xs : List α) (us : List (Int × Int)), (keysI us ++ xs.map kk).Nodup → xs.foldl (fun a x => putI a (kk x) (vv x)) us = us ++ xs.map fun x => (kk x, vv x)
  | [], us, _ => by simp
  | x :: xs, us, h => by
    have hn : ¬ (us.any fun p => decide (p.1 = kk x)) = true := fun z => by
      obtain ⟨q, hq, e⟩ := List.any_eq_true.mp z
      rw [List.map_cons, List.nodup_append] at h
      exact h.2.2 _ (List.mem_map.mpr ⟨q, hq, rfl⟩) _ List.mem_cons_self (of_decide_eq_true e)
    have e1 : putI us (kk x) (vv x) = us ++ [(kk x, vv x)] := by unfold putI; rw [if_neg hn]
    rw [List.foldl_cons, e1, fold_new kk vv xs _ (by simpa [keysI] using h)]
    simp
theorem foldD_I {α : Type} (kk vv : α → Int) : ∀ (xs : List α) (us : List (Int × Int)), xs.foldl (fun a x => putD a (Sum.inl (kk x) : Key) (.int (vv x))) (us.map fun p => ((Sum.inl p.1 : Key), D.int p.2)) = (xs.foldl (fun a x => putI a (kk x) (vv x)) us).map fun p => ((Sum.inl p.1 : Key), D.int p.2)
  | [], us => rfl
  | x :: xs, us => by rw [List.foldl_cons, putD_dI, foldD_I kk vv xs, List.foldl_cons]
theorem lowered_W {m : List (Int × Int)} (nd : (keysI m).Nodup) (hl : m.length ≤ 1000) (a : Int) : S_lowered [dI m, .int a] = some (dI (lowI m a), 9, .non) := by
  have go : W (S_lowered [dI m, .int a]) fun r => r = (dI (lowI m a), 9, .non) := by
    refine W_O fun Q' hQ => ?_
    unfold S_lowered S_loweredb
    rw [W_mDef]
    unfold dI
    have it := itmD_dI m
    simp (disch := first | assumption | (simp; done) | omega) [ent0_def, W_dc0, it]
    refine W_dcX (xs := m) (ι := pr) (fun p => decide (a < p.2)) (fun p => (Sum.inl p.1 : Key)) (fun p => .int (p.2 - a)) (fun _ => rfl) [] (by rw [sizeL]; simp; omega) (fun p hp => ?_) ?_
    · simp (disch := first | assumption | (simp; done) | omega) [pr]
    · have e := foldD_I (fun p : Int × Int => p.1) (fun p => p.2 - a) (m.filter fun p => decide (a < p.2)) []
      have nd2 : ((m.filter fun p => decide (a < p.2)).map (·.1)).Nodup := ((List.filter_sublist (l := m)).map _).nodup nd
      rw [fold_new _ _ _ _ (by simpa [keysI] using nd2)] at e
      simp only [List.map_nil, List.nil_append] at e
      rw [e]
      simp (disch := first | assumption | (simp; done) | omega) [-List.map_map]
      exact hQ _ rfl
  obtain ⟨r, e, rfl⟩ := go
  exact e
theorem as_counts_W {m : List (Int × Int)} (hl : m.length ≤ 1000) : S_as_counts [dI m] = some (.tup ((asC m).map pr), 9, .non) := by
  have go : W (S_as_counts [dI m]) fun r => r = (.tup ((asC m).map pr), 9, .non) := by
    refine W_O fun Q' hQ => ?_
    unfold S_as_counts S_as_countsb
    rw [W_mDef]
    simp (disch := first | assumption | (simp; done) | omega) [ent0_def, W_lc0]
    refine W_lcY (xs := srt (keysI m)) (ι := D.int) (fun k => pr (k, (getI m k).getD 0)) (fun _ => imm_pr _) (by rw [srt_len, sizeL]; simp [keysI]; omega) (fun k hk => ?_) fun acc ha hu => ?_
    · obtain ⟨v, hv⟩ := get_some (m := m) (srt_mem.mp hk)
      simp (disch := first | assumption | (simp; done) | omega) [hv, uni, pr]
    · have e5 : D.tup ((srt (keysI m)).map fun k => pr (k, (getI m k).getD 0)) = .tup ((asC m).map pr) := by
        unfold asC; rw [List.map_map]; rfl
      have i5 : imms ((srt (keysI m)).map fun k => pr (k, (getI m k).getD 0)) = true := imms_map' (fun _ => imm_pr _) _
      simp (disch := first | assumption | (simp; done) | omega) [ha, hu, i5, e5, -List.map_map]
      exact hQ _ rfl
  obtain ⟨r, e, rfl⟩ := go
  exact e
/-- a summary -/
def sumD (c : List (Int × Int)) (off : Int) : D := .tup [.tup (c.map pr), .int off]
theorem summary_W {st : List (Int × Int)} (hl : st.length ≤ 200) (k : Int) : S_counter_summary [.tup (st.map pr), .int k] = some (sumD (asC (cSum k st).1) (cSum k st).2, 0, .non) := by
  have go : W (S_counter_summary [.tup (st.map pr), .int k]) fun r => r = (sumD (asC (cSum k st).1) (cSum k st).2, 0, .non) := by
    refine W_O fun Q' hQ => ?_
    unfold S_counter_summary S_counter_summaryb
    rw [W_mDef]
    have is := imms_map' imm_pr st
    (refine Zk.W_seqE (E1 := ?wE185) ?wa185 ?wb185; (case wa185 => (simp (disch := first | assumption | (simp; done) | omega) [ent0_def]; exact rfl)))
    (refine Zk.W_seqE (E1 := ?wE186) ?wa186 ?wb186; (case wa186 => (simp (disch := first | assumption | (simp; done) | omega) []; exact rfl)))
    rw [dI_nil]
    have c0 : cSum k [] = ([], 0) := rfl
    (refine Zk.W_forS ?wE288 st pr [4, 5, 6] (fun (_ : Unit) a => [(2, some (dI (cSum k a).1, 9)), (3, some (.int (cSum k a).2, 9))]) (fun _ _ => True) () ?wa288 ?wb288 ?_ ?_ ?_; (case wa288 => (simp (disch := first | assumption | (simp; done) | omega) [is, c0]; exact rfl)); (case wb288 => (simp (disch := first | assumption | (simp; done) | omega) [Zk.sets, is, c0])))
    · trivial
    · intro _ a p b I' e _ hI
      simp only [Zk.AllU, Zk.sets, List.set_cons_succ, List.set_cons_zero, List.set_nil] at *
      intro u4 u5 u6
      refine W_tg2 (by simp) (by simp) ?_
      have hI := hI () trivial
      rw [cSum_app] at hI
      obtain ⟨nd, le⟩ := cSum_inv k a
      have al : a.length ≤ 200 := by rw [e] at hl; simp at hl; omega
      generalize cSum k a = s at *
      obtain ⟨m, off⟩ := s
      simp only at nd le hI ⊢
      have ml : m.length < sizeLine := by rw [sizeL]; omega
      (refine Zk.W_seqE (E1 := ?wE187) ?wa187 ?wb187; (case wa187 => (simp (disch := first | assumption | (simp; done) | omega) [ml]; exact rfl)))
      have nd1 := putI_nd nd p.1 ((getI m p.1).getD 0 + p.2)
      have le1 := putI_len m p.1 ((getI m p.1).getD 0 + p.2)
      have hS : cS k (m, off) p = if k < (putI m p.1 ((getI m p.1).getD 0 + p.2)).length then (lowI (putI m p.1 ((getI m p.1).getD 0 + p.2)) (minL ((putI m p.1 ((getI m p.1).getD 0 + p.2)).map (·.2))), off + minL ((putI m p.1 ((getI m p.1).getD 0 + p.2)).map (·.2))) else (putI m p.1 ((getI m p.1).getD 0 + p.2), off) := rfl
      rw [hS] at hI
      have ne : putI m p.1 ((getI m p.1).getD 0 + p.2) ≠ [] := fun z => by
        have : getI (putI m p.1 ((getI m p.1).getD 0 + p.2)) p.1 = some ((getI m p.1).getD 0 + p.2) := by rw [get_put, if_pos rfl]
        have e9 : getI ([] : List (Int × Int)) p.1 = none := rfl
        rw [z, e9] at this
        exact absurd this (by simp)
      generalize putI m p.1 ((getI m p.1).getD 0 + p.2) = m1 at *
      have gv : gVals [dI m1] = some (.lst ((m1.map (·.2)).map D.int), 9) := by
        unfold dI
        rw [gVals_dK]
        have e1 : (m1.map fun p => ((Sum.inl p.1 : Key), D.int p.2)).map (·.2) = (m1.map (·.2)).map D.int := by rw [List.map_map, List.map_map]; rfl
        rw [e1, lev_ints]
      have gm := gMin_list (ns := m1.map (·.2)) (by simpa using ne)
      have ii : imms ((m1.map (·.2)).map D.int) = true := imms_map' (fun _ => rfl) _
      have lw := lowered_W nd1 (by omega) (minL (m1.map (·.2)))
      by_cases c : k < (m1.length : Int)
      · rw [if_pos c] at hI
        (refine Zk.W_ifT (E1 := ?wE188) ?wa188 ?wb188; (case wa188 => (simp (disch := first | assumption | (simp; done) | omega) [c]; exact rfl)))
        (refine Zk.W_seqE (E1 := ?wE189) ?wa189 ?wb189; (case wa189 => (simp (disch := first | assumption | (simp; done) | omega) [gv, gm, ii, -List.map_map]; exact rfl)))
        (refine Zk.W_seqE (E1 := ?wE190) ?wa190 ?wb190; (case wa190 => (simp (disch := first | assumption | (simp; done) | omega) [lw, dem1]; exact rfl)))
        simp (disch := first | assumption | (simp; done) | omega) []
        apply hI
      · rw [if_neg c] at hI
        (refine Zk.W_ifF (E1 := ?wE191) ?wa191 ?wb191; (case wa191 => (simp (disch := first | assumption | (simp; done) | omega) [c]; exact rfl)))
        simp (disch := first | assumption | (simp; done) | omega) []
        apply hI
    intro _ _
    simp only [Zk.AllU, Zk.sets, List.set_cons_succ, List.set_cons_zero, List.set_nil] at *
    intro u4 u5 u6
    obtain ⟨nd, le⟩ := cSum_inv k st
    have ac := as_counts_W (m := (cSum k st).1) (by omega)
    have i5 := imms_map' imm_pr (asC (cSum k st).1)
    simp (disch := first | assumption | (simp; done) | omega) [ac, i5, uni, dem1]
    exact hQ _ rfl
  obtain ⟨r, e, rfl⟩ := go
  exact e
end
end Zk.Bb
namespace Zk.Bb
noncomputable section
open PySem PySem.Spec PyProof.Rows L2 Zk
theorem get_at {m : List (Int × Int)} (nd : (keysI m).Nodup) {p : Int × Int} (hp : p ∈ m) : getI m p.1 = some p.2 := by
  induction m with
  | nil => cases hp
  | cons q m ih =>
    have nd2 : q.1 ∉ keysI m ∧ (keysI m).Nodup := List.nodup_cons.mp nd
    unfold getI
    rcases List.mem_cons.mp hp with rfl | hp
    · simp
    · have : ¬ q.1 = p.1 := fun e => nd2.1 (by rw [e]; exact List.mem_map.mpr ⟨p, hp, rfl⟩)
      rw [List.find?_cons]
      simp only [this, decide_false]
      exact ih nd2.2 hp
theorem cancelled_W {st : List (Int × Int)} (hl : st.length ≤ 200) (k : Int) : S_law_cancelled [.tup (st.map pr), .int k] = some (sumD (asC (cSum k st).1) (cSum k st).2, 0, .non) := by
  have go : W (S_law_cancelled [.tup (st.map pr), .int k]) fun r => r = (sumD (asC (cSum k st).1) (cSum k st).2, 0, .non) := by
    refine W_O fun Q' hQ => ?_
    unfold S_law_cancelled S_law_cancelledb
    rw [W_mDef]
    have is := imms_map' imm_pr st
    (refine Zk.W_seqE (E1 := ?wE192) ?wa192 ?wb192; (case wa192 => (simp (disch := first | assumption | (simp; done) | omega) [ent0_def]; exact rfl)))
    (refine Zk.W_seqE (E1 := ?wE193) ?wa193 ?wb193; (case wa193 => (simp (disch := first | assumption | (simp; done) | omega) []; exact rfl)))
    rw [dI_nil]
    have c0 : cSum k [] = ([], 0) := rfl
    (refine Zk.W_forS ?wE289 st pr [4, 5, 6, 7, 8] (fun (_ : Unit) a => [(2, some (dI (cSum k a).1, 9)), (3, some (.int (cSum k a).2, 9))]) (fun _ _ => True) () ?wa289 ?wb289 ?_ ?_ ?_; (case wa289 => (simp (disch := first | assumption | (simp; done) | omega) [is, c0]; exact rfl)); (case wb289 => (simp (disch := first | assumption | (simp; done) | omega) [Zk.sets, is, c0])))
    · trivial
    · intro _ a p b I' e _ hI
      simp only [Zk.AllU, Zk.sets, List.set_cons_succ, List.set_cons_zero, List.set_nil] at *
      intro u4 u5 u6 u7 u8
      refine W_tg2 (by simp) (by simp) ?_
      have hI := hI () trivial
      rw [cSum_app] at hI
      obtain ⟨nd, le⟩ := cSum_inv k a
      have al : a.length ≤ 200 := by rw [e] at hl; simp at hl; omega
      generalize cSum k a = s at *
      obtain ⟨m, off⟩ := s
      simp only at nd le hI ⊢
      have ml : m.length < sizeLine := by rw [sizeL]; omega
      (refine Zk.W_seqE (E1 := ?wE194) ?wa194 ?wb194; (case wa194 => (simp (disch := first | assumption | (simp; done) | omega) [ml]; exact rfl)))
      have nd1 := putI_nd nd p.1 ((getI m p.1).getD 0 + p.2)
      have le1 := putI_len m p.1 ((getI m p.1).getD 0 + p.2)
      have hS : cS k (m, off) p = if k < (putI m p.1 ((getI m p.1).getD 0 + p.2)).length then (lowI (putI m p.1 ((getI m p.1).getD 0 + p.2)) (minL ((putI m p.1 ((getI m p.1).getD 0 + p.2)).map (·.2))), off + minL ((putI m p.1 ((getI m p.1).getD 0 + p.2)).map (·.2))) else (putI m p.1 ((getI m p.1).getD 0 + p.2), off) := rfl
      rw [hS] at hI
      have ne : putI m p.1 ((getI m p.1).getD 0 + p.2) ≠ [] := fun z => by
        have : getI (putI m p.1 ((getI m p.1).getD 0 + p.2)) p.1 = some ((getI m p.1).getD 0 + p.2) := by rw [get_put, if_pos rfl]
        have e9 : getI ([] : List (Int × Int)) p.1 = none := rfl
        rw [z, e9] at this
        exact absurd this (by simp)
      generalize putI m p.1 ((getI m p.1).getD 0 + p.2) = m1 at *
      have gm := gMin_list (ns := m1.map (·.2)) (by simpa using ne)
      have ii : imms ((m1.map (·.2)).map D.int) = true := imms_map' (fun _ => rfl) _
      have kd := keysD_dI m1
      by_cases c : k < (m1.length : Int)
      · rw [if_pos c] at hI
        (refine Zk.W_ifT (E1 := ?wE195) ?wa195 ?wb195; (case wa195 => (simp (disch := first | assumption | (simp; done) | omega) [c]; exact rfl)))
        -- the least one
        refine W_seqO (J := fun E => E = [some (.tup (st.map pr), 0), some (.int k, 0), some (dI m1, 0), some (.int off, 9), some (.int p.1, 0), some (.int p.2, 0), some (.int (minL (m1.map (·.2))), 9), u7, u8]) ?_ ?_
        · intro J' hJ
          have gx : ∀ q ∈ m1, gIxd [dI m1, .int q.1] = some (.int q.2, 0) := fun q hq => by rw [gIxd_dI, get_at nd1 hq]; rfl
          obtain ⟨dd, hd⟩ : ∃ dd, dd = dI m1 := ⟨_, rfl⟩
          have hd2 : dI m1 = .dK (m1.map fun p => ((Sum.inl p.1 : Key), D.int p.2)) := rfl
          rw [hd2]
          simp (disch := first | assumption | (simp; done) | omega) [W_lc0, kd]
          rw [← hd2]
          refine W_lcN (xs := m1) (ι := fun q : Int × Int => D.int q.1) (fun q => q.2) (by rw [sizeL]; omega) (fun q hq => ?_) fun acc ha hu => ?_
          · have gx := gx q hq
            simp (disch := first | assumption | (simp; done) | omega) [gx]
          · simp (disch := first | assumption | (simp; done) | omega) [ha, hu, gm, ii, -List.map_map]
            exact hJ _ rfl
        rintro _ rfl
        (refine Zk.W_seqE (E1 := ?wE196) ?wa196 ?wb196; (case wa196 => (simp (disch := first | assumption | (simp; done) | omega) []; exact rfl)))
        (refine Zk.W_seqE (E1 := ?wE197) ?wa197 ?wb197; (case wa197 => (simp (disch := first | assumption | (simp; done) | omega) []; exact rfl)))
        rw [dI_nil]
        generalize hmn : minL (m1.map (·.2)) = mn at *
        refine W_seqO (J := fun E => ∃ u7, E = [some (.tup (st.map pr), 0), some (.int k, 0), some (dI m1, 0), some (.int (off + mn), 9), some (.int p.1, 0), some (.int p.2, 0), some (.int mn, 9), u7, some (dI (lowI m1 mn), 9)]) ?_ ?_
        · intro J' hJ
          have gx : ∀ q ∈ m1, gIxd [dI m1, .int q.1] = some (.int q.2, 0) := fun q hq => by rw [gIxd_dI, get_at nd1 hq]; rfl
          have hd2 : dI m1 = .dK (m1.map fun p => ((Sum.inl p.1 : Key), D.int p.2)) := rfl
          rw [hd2]
          refine W_lkG.mpr ⟨_, rfl, ?_⟩
          show W (mFor (rdI keysD 2) _ _ _) _
          rw [← hd2]
          refine W_end ?_
          have kd2 : keysD (m1.map fun p => ((Sum.inl p.1 : Key), D.int p.2)) = m1.map fun q : Int × Int => D.int q.1 := kd
          refine W_forS (E1 := [some (.tup (st.map pr), 0), some (.int k, 0), some (dI m1, 0), some (.int (off + mn), 9), some (.int p.1, 0), some (.int p.2, 0), some (.int mn, 9), u7, some (dI [], 9)]) m1 (fun q : Int × Int => D.int q.1) [7] (fun (_ : Unit) a => [(8, some (dI (lowI a mn), 9))]) (fun _ _ => True) () ?_ ?_ trivial ?_ ?_
          · rw [hd2]
            simp (disch := first | assumption | (simp; done) | omega) [kd2]
          · rfl
          · intro _ a2 q b2 I2 e2 _ hI2
            simp only [Zk.AllU, Zk.sets, List.set_cons_succ, List.set_cons_zero, List.set_nil] at *
            intro u7
            refine W_tgV.mpr ⟨by simp, ?_⟩
            have gx := gx q (by rw [e2]; simp)
            have ll : (lowI a2 mn).length < sizeLine := by
              have h1 : (lowI a2 mn).length ≤ a2.length := by
                unfold lowI
                rw [List.length_map]
                exact List.length_filter_le _ _
              have := congrArg List.length e2
              simp at this
              rw [sizeL]; omega
            have la : lowI (a2 ++ [q]) mn = if mn < q.2 then putI (lowI a2 mn) q.1 (q.2 - mn) else lowI a2 mn := by
              unfold lowI
              rw [List.filter_append, List.map_append]
              by_cases c2 : mn < q.2
              · rw [if_pos c2]
                have hn : ¬ (((a2.filter fun p => decide (mn < p.2)).map fun p => (p.1, p.2 - mn)).any fun p => decide (p.1 = q.1)) = true := fun z => by
                  obtain ⟨x, hx, e⟩ := List.any_eq_true.mp z
                  obtain ⟨y, hy, rfl⟩ := List.mem_map.mp hx
                  have hy := (List.mem_filter.mp hy).1
                  unfold keysI at nd1
                  rw [e2, List.map_append, List.map_cons, List.nodup_append] at nd1
                  exact nd1.2.2 _ (List.mem_map.mpr ⟨y, hy, rfl⟩) _ List.mem_cons_self (of_decide_eq_true e)
                unfold putI
                rw [if_neg hn]
                simp [c2]
              · rw [if_neg c2]
                simp [c2]
            by_cases c2 : mn < q.2
            · rw [if_pos c2] at la
              simp (disch := first | assumption | (simp; done) | omega) [gx, c2, ll]
              rw [← la]
              apply hI2 () trivial
            · rw [if_neg c2] at la
              simp (disch := first | assumption | (simp; done) | omega) [gx, c2]
              rw [← la]
              apply hI2 () trivial
          intro _ _
          simp only [Zk.AllU, Zk.sets, List.set_cons_succ, List.set_cons_zero, List.set_nil] at *
          intro u7
          simp (disch := first | assumption | (simp; done) | omega) []
          exact hJ _ ⟨u7, rfl⟩
        rintro _ ⟨u7, rfl⟩
        unfold mMov
        simp (disch := first | assumption | (simp; done) | omega) []
        apply hI
      · rw [if_neg c] at hI
        (refine Zk.W_ifF (E1 := ?wE198) ?wa198 ?wb198; (case wa198 => (simp (disch := first | assumption | (simp; done) | omega) [c]; exact rfl)))
        simp (disch := first | assumption | (simp; done) | omega) []
        apply hI
    intro _ _
    simp only [Zk.AllU, Zk.sets, List.set_cons_succ, List.set_cons_zero, List.set_nil] at *
    intro u4 u5 u6 u7 u8
    obtain ⟨nd, le⟩ := cSum_inv k st
    generalize cSum k st = s at *
    obtain ⟨m, off⟩ := s
    simp only at nd le hQ ⊢
    simp (disch := first | assumption | (simp; done) | omega) [W_lc0]
    refine W_lcY (xs := srt (keysI m)) (ι := D.int) (fun k => pr (k, (getI m k).getD 0)) (fun _ => imm_pr _) (by rw [srt_len, sizeL]; simp [keysI]; omega) (fun k hk => ?_) fun acc ha hu => ?_
    · obtain ⟨v, hv⟩ := get_some (m := m) (srt_mem.mp hk)
      simp (disch := first | assumption | (simp; done) | omega) [hv, uni, pr]
    · have e5 : D.tup ((srt (keysI m)).map fun k => pr (k, (getI m k).getD 0)) = .tup ((asC m).map pr) := by
        unfold asC; rw [List.map_map]; rfl
      have i5 : imms ((srt (keysI m)).map fun k => pr (k, (getI m k).getD 0)) = true := imms_map' (fun _ => imm_pr _) _
      have i6 := imms_map' imm_pr (asC m)
      simp (disch := first | assumption | (simp; done) | omega) [ha, hu, i5, e5, i6, uni, -List.map_map]
      exact hQ _ rfl
  obtain ⟨r, e, rfl⟩ := go
  exact e
end
end Zk.Bb
namespace Zk.Bb
noncomputable section
open PySem PySem.Spec PyProof.Rows L2 Zk
theorem bounds_W {c : List (Int × Int)} (nd : (c.map (·.1)).Nodup) (hl : c.length ≤ 1000) (off key : Int) : S_counter_bounds [sumD c off, .int key] = some (.tup [.int (ksum c key), .int (ksum c key + off)], 0, .non) := by
  have go : W (S_counter_bounds [sumD c off, .int key]) fun r => r = (.tup [.int (ksum c key), .int (ksum c key + off)], 0, .non) := by
    refine W_O fun Q' hQ => ?_
    unfold S_counter_bounds S_counter_boundsb
    rw [W_mDef]
    unfold sumD
    have ic := imms_map' imm_pr c
    (refine Zk.W_seqE (E1 := ?wE199) ?wa199 ?wb199; (case wa199 => (simp (disch := first | assumption | (simp; done) | omega) [ent0_def, ic]; exact rfl)))
    (refine Zk.W_seqE (E1 := ?wE200) ?wa200 ?wb200; (case wa200 => (simp (disch := first | assumption | (simp; done) | omega) []; exact rfl)))
    have k0 : ksum [] key = 0 := rfl
    (refine Zk.W_forS ?wE290 c pr [5, 6] (fun (l : Nat) a => [(4, some (.int (ksum a key), l))]) (fun _ _ => True) 9 ?wa290 ?wb290 ?_ ?_ ?_; (case wa290 => (simp (disch := first | assumption | (simp; done) | omega) [ic, k0]; exact rfl)); (case wb290 => (simp (disch := first | assumption | (simp; done) | omega) [Zk.sets, ic, k0])))
    · trivial
    · intro l a p b I' e _ hI
      simp only [Zk.AllU, Zk.sets, List.set_cons_succ, List.set_cons_zero, List.set_nil] at *
      intro u5 u6
      refine W_tg2 (by simp) (by simp) ?_
      have ks : ksum (a ++ [p]) key = ksum a key + if p.1 = key then p.2 else 0 := by rw [ksum_app, ksum_one]
      by_cases h : p.1 = key
      · have z : ksum a key = 0 := ksum_out fun q hq e2 => by
          rw [e, List.map_append, List.map_cons, List.nodup_append] at nd
          exact nd.2.2 _ (List.mem_map.mpr ⟨q, hq, rfl⟩) _ List.mem_cons_self (e2.trans h.symm)
        rw [if_pos h, z, Int.zero_add] at ks
        rw [ks] at hI
        simp (disch := first | assumption | (simp; done) | omega) [h]
        apply hI 9 trivial
      · rw [if_neg h, Int.add_zero] at ks
        rw [ks] at hI
        simp (disch := first | assumption | (simp; done) | omega) [h]
        apply hI l trivial
    intro l _
    simp only [Zk.AllU, Zk.sets, List.set_cons_succ, List.set_cons_zero, List.set_nil] at *
    intro u5 u6
    simp (disch := first | assumption | (simp; done) | omega) [uni]
    exact hQ _ rfl
  obtain ⟨r, e, rfl⟩ := go
  exact e
theorem law_bounds_W {c : List (Int × Int)} (hl : c.length ≤ 1000) (off key : Int) : S_law_summary_bounds [sumD c off, .int key] = some (.tup [.int (ksum c key), .int (ksum c key + off)], 0, .non) := by
  have go : W (S_law_summary_bounds [sumD c off, .int key]) fun r => r = (.tup [.int (ksum c key), .int (ksum c key + off)], 0, .non) := by
    refine W_O fun Q' hQ => ?_
    unfold S_law_summary_bounds S_law_summary_boundsb
    rw [W_mDef]
    unfold sumD
    have ic := imms_map' imm_pr c
    have lt := law_truth_eq (st := c) (k := key) (by omega)
    simp (disch := first | assumption | (simp; done) | omega) [ent0_def, ic, lt, uni, dem1]
    exact hQ _ rfl
  obtain ⟨r, e, rfl⟩ := go
  exact e
theorem gNotIn_int (x : Int) (ns : List Int) (h : ns.length ≤ 1000000) : gInA true [.int x, .lst (ns.map D.int)] = some (.bl (!decide (x ∈ ns)), 9) := by
  have e : gInA true [.int x, .lst (ns.map D.int)] = gIn true [.int x, .lst (ns.map D.int)] := rfl
  have d1 : dat 64 (.int x) = true := rfl
  have d2 : dat 64 (.lst (ns.map D.int)) = true := by
    have : ns.length ≤ sizeLine := by rw [sizeL]; omega
    simp [dat, this]
  rw [e]
  simp only [gIn, d1, d2, and_self, if_true, List.any_map]
  congr 3
  have e2 : ns.any ((fun z => deq z (D.int x)) ∘ D.int) = decide (x ∈ ns) := by
    rw [Bool.eq_iff_iff, List.any_eq_true, decide_eq_true_iff]
    constructor
    · rintro ⟨y, hy, e⟩
      simp only [Function.comp_apply, deq_int, decide_eq_true_eq] at e
      rw [← e]; exact hy
    · intro h
      exact ⟨x, h, by simp⟩
  rw [e2]
  cases decide (x ∈ ns) <;> rfl
theorem many_keys_spec (s : List Int) : W (S_law_many_keys [dr s]) fun r => ∃ (ks : List Int) (s' : List Int), r = (.lst (ks.map D.int), 9, dr s') ∧ ks ≠ [] ∧ (∀ k ∈ ks, 0 ≤ k ∧ k ≤ 1000) ∧ ks.length ≤ 12 := by
  refine W_O fun Q' hQ => ?_
  unfold S_law_many_keys S_law_many_keysb
  rw [W_mDef]
  (refine Zk.W_seqE (E1 := ?wE201) ?wa201 ?wb201; (case wa201 => (simp (disch := first | assumption | (simp; done) | omega) [ent0_def, uni]; exact rfl)))
  obtain ⟨v, ev, hv⟩ := dvN s 9 (by decide)
  have rk : rgOk (4 + (v : Int)) := ⟨by omega, by omega⟩
  have te : (4 + (v : Int)).toNat = 4 + v := by omega
  (refine Zk.W_forN ?wE291 (4 + v) [2, 3] (fun (c : List Int × List Int) _ => [(0, some (dr c.1, 1)), (1, some (.lst (c.2.map D.int), 9))]) (fun c n => (∀ k ∈ c.2, 0 ≤ k ∧ k ≤ 1000) ∧ c.2.length ≤ n ∧ (1 ≤ n → c.2 ≠ [])) (s.dropLast, []) ?wa291 ?wb291 ?_ ?_ ?_; (case wa291 => (simp (disch := first | assumption | (simp; done) | omega) [ev, rk, te, dem1]; exact rfl)); (case wb291 => (simp (disch := first | assumption | (simp; done) | omega) [Zk.sets, ev, rk, te, dem1])))
  · exact ⟨by simp, by simp, fun h => absurd h (by decide)⟩
  · rintro ⟨s, ks⟩ n I' hn ⟨h1, h2, h3⟩ hI
    simp only [Zk.AllU, Zk.sets, List.set_cons_succ, List.set_cons_zero, List.set_nil] at *
    intro u2 u3
    refine W_tgV.mpr ⟨by simp, ?_⟩
    obtain ⟨x, ex, hx⟩ := dvN s 1001 (by decide)
    (refine Zk.W_seqE (E1 := ?wE202) ?wa202 ?wb202; (case wa202 => (simp (disch := first | assumption | (simp; done) | omega) [ex, dem1]; exact rfl)))
    have gn := gNotIn_int (x : Int) ks (by have h2' : ks.length ≤ n := h2; omega)
    have ii : imms (ks.map D.int) = true := imms_map' (fun _ => rfl) _
    by_cases c : (x : Int) ∈ ks
    · rw [decide_eq_true c] at gn
      (refine Zk.W_ifF (E1 := ?wE203) ?wa203 ?wb203; (case wa203 => (simp (disch := first | assumption | (simp; done) | omega) [gn, ii]; exact rfl)))
      simp (disch := first | assumption | (simp; done) | omega) []
      apply hI (s.dropLast, ks) ⟨h1, Nat.le_succ_of_le h2, fun _ z => by have z' : ks = [] := z; rw [z'] at c; cases c⟩
    · rw [decide_eq_false c] at gn
      (refine Zk.W_ifT (E1 := ?wE204) ?wa204 ?wb204; (case wa204 => (simp (disch := first | assumption | (simp; done) | omega) [gn, ii]; exact rfl)))
      have sz : ks.length < sizeLine := by rw [sizeL]; omega
      simp (disch := first | assumption | (simp; done) | omega) [sz, ii]
      have hI := hI (s.dropLast, ks ++ [(x : Int)]) ⟨fun k hk => by
        rcases List.mem_append.mp hk with hk | hk
        · exact h1 k hk
        · rw [List.mem_singleton.mp hk]; omega, by have h2' : ks.length ≤ n := h2; simp; omega, fun _ => by simp⟩
      simp only [List.map_append, List.map_cons, List.map_nil] at hI
      apply hI
  rintro ⟨s, ks⟩ ⟨h1, h2, h3⟩
  simp only [Zk.AllU, Zk.sets, List.set_cons_succ, List.set_cons_zero, List.set_nil] at *
  intro u2 u3
  simp (disch := first | assumption | (simp; done) | omega) []
  exact hQ _ ⟨ks, s, rfl, h3 (by omega), h1, by have h2' : ks.length ≤ 4 + v := h2; omega⟩
variable {F : Fd}
end
end Zk.Bb
namespace Zk
noncomputable section
open PySem PySem.Spec PyProof.Rows L2
def S_least_entryb : Fs := (mRet (mIxd (mOp gMinP (mAc (mLkF itmD 0 fun it => (mLc it [1, 2, 3] (tgT 2 (tgC (tgV 1) (tgC (tgT 2 (tgC (tgV 2) (tgC (tgV 3) tgN))) tgN))) mYes (mTup (mAc (mVar 2) (mAc (mVar 1) mA0))))) mA0)) (mC (.int 1))))
def S_least_entry : Mir := mDef none 4 S_least_entryb
def S_space_summaryb : Fs := (mSeq (mSet 2 mDicK) (mSeq (mFor (mSq (mVar 0)) (tgT 2 (tgC (tgV 3) (tgC (tgV 4) tgN))) (mIfS (mB (mIn (mVar 3) (mVar 2))) (mSeq (mAsg (tgT 2 (tgC (tgV 5) (tgC (tgV 6) tgN))) (mIxd (mVar 2) (mVar 3))) (mPut 2 (mVar 3) (mTup (mAc (mAdd (mVar 5) (mVar 4)) (mAc (mVar 6) mA0))))) (mIfS (mB (mLt (mOp gLenD (mAc (mVar 2) mA0)) (mVar 1))) (mPut 2 (mVar 3) (mTup (mAc (mVar 4) (mAc (mC (.int 0)) mA0)))) (mSeq (mSet 7 (mCall none S_least_entry (mAc (mVar 2) mA0))) (mSeq (mSet 8 (mIxd (mIxd (mVar 2) (mVar 7)) (mC (.int 0)))) (mSeq (mDel 2 (mVar 7)) (mPut 2 (mVar 3) (mTup (mAc (mAdd (mVar 8) (mVar 4)) (mAc (mVar 8) mA0)))))))))) (mRet (mOp gTuple (mAc (mLc (mSq (mSrt (mVar 2))) [3] (tgV 3) mYes (mTup (mAc (mVar 3) (mAc (mIxd (mIxd (mVar 2) (mVar 3)) (mC (.int 0))) (mAc (mIxd (mIxd (mVar 2) (mVar 3)) (mC (.int 1))) mA0))))) mA0)))))
def S_space_summary : Mir := mDef none 9 S_space_summaryb
def S_space_boundsb : Fs := (mSeq (mFor (mSq (mVar 0)) (tgT 3 (tgC (tgV 3) (tgC (tgV 4) (tgC (tgV 5) tgN)))) (mIfS (mB (mEq (mVar 3) (mVar 2))) (mRet (mTup (mAc (mSub (mVar 4) (mVar 5)) (mAc (mVar 4) mA0)))) mNx)) (mSeq (mIfS (mB (mLt (mOp gLen (mAc (mVar 0) mA0)) (mVar 1))) (mRet (mTup (mAc (mC (.int 0)) (mAc (mC (.int 0)) mA0)))) mNx) (mRet (mTup (mAc (mC (.int 0)) (mAc (mOp gMin (mAc (mLc (mSq (mVar 0)) [6, 4, 6] (tgT 3 (tgC (tgV 6) (tgC (tgV 4) (tgC (tgV 6) tgN)))) mYes (mVar 4)) mA0)) mA0))))))
def S_space_bounds : Mir := mDef none 7 S_space_boundsb
def S_law_space_entriesb : Fs := (mSeq (mSet 2 (mLst mA0)) (mSeq (mFor (mSq (mVar 0)) (tgT 2 (tgC (tgV 3) (tgC (tgV 4) tgN))) (mSeq (mSet 5 (mLc (mSq (mVar 2)) [6] (tgV 6) (mB (mEq (mIxd (mVar 6) (mC (.int 0))) (mVar 3))) (mVar 6))) (mSeq (mIfS (mB (mGt (mOp gLen (mAc (mVar 5) mA0)) (mC (.int 0)))) (mSet 2 (mAdd (mLc (mSq (mVar 2)) [6] (tgV 6) (mB (mNe (mIxd (mVar 6) (mC (.int 0))) (mVar 3))) (mVar 6)) (mLst (mAc (mTup (mAc (mVar 3) (mAc (mAdd (mIxd (mIxd (mVar 5) (mC (.int 0))) (mC (.int 1))) (mVar 4)) (mAc (mIxd (mIxd (mVar 5) (mC (.int 0))) (mC (.int 2))) mA0)))) mA0)))) (mIfS (mB (mLt (mOp gLen (mAc (mVar 2) mA0)) (mVar 1))) (mSet 2 (mAdd (mVar 2) (mLst (mAc (mTup (mAc (mVar 3) (mAc (mVar 4) (mAc (mC (.int 0)) mA0)))) mA0)))) (mSeq (mSet 7 (mOp gMin (mAc (mLc (mSq (mVar 2)) [6] (tgV 6) mYes (mIxd (mVar 6) (mC (.int 1)))) mA0))) (mSeq (mSet 8 (mIxd (mLc (mSq (mVar 2)) [6] (tgV 6) (mB (mEq (mIxd (mVar 6) (mC (.int 1))) (mVar 7))) (mVar 6)) (mC (.int 0)))) (mSet 2 (mAdd (mLc (mSq (mVar 2)) [6] (tgV 6) (mB (mNe (mVar 6) (mVar 8))) (mVar 6)) (mLst (mAc (mTup (mAc (mVar 3) (mAc (mAdd (mVar 7) (mVar 4)) (mAc (mVar 7) mA0)))) mA0)))))))) (mSet 2 (mSrtL (mVar 2)))))) (mRet (mOp gTuple (mAc (mVar 2) mA0)))))
def S_law_space_entries : Mir := mDef none 9 S_law_space_entriesb
def S_law_space_boundsb : Fs := (mSeq (mSet 3 (mLc (mSq (mVar 0)) [4] (tgV 4) (mB (mEq (mIxd (mVar 4) (mC (.int 0))) (mVar 2))) (mVar 4))) (mSeq (mIfS (mB (mGt (mOp gLen (mAc (mVar 3) mA0)) (mC (.int 0)))) (mRet (mTup (mAc (mSub (mIxd (mIxd (mVar 3) (mC (.int 0))) (mC (.int 1))) (mIxd (mIxd (mVar 3) (mC (.int 0))) (mC (.int 2)))) (mAc (mIxd (mIxd (mVar 3) (mC (.int 0))) (mC (.int 1))) mA0)))) mNx) (mSeq (mIfS (mB (mLt (mOp gLen (mAc (mVar 0) mA0)) (mVar 1))) (mRet (mTup (mAc (mC (.int 0)) (mAc (mC (.int 0)) mA0)))) mNx) (mRet (mTup (mAc (mC (.int 0)) (mAc (mOp gMin (mAc (mLc (mSq (mVar 0)) [4] (tgV 4) mYes (mIxd (mVar 4) (mC (.int 1)))) mA0)) mA0)))))))
def S_law_space_bounds : Mir := mDef none 5 S_law_space_boundsb
def S_law_as_oneb : Fs := (mSeq (mSet 2 (mCall none S_law_units (mAc (mVar 0) mA0))) (mSeq (mSet 3 (mCall none S_space_summary (mAc (mVar 2) (mAc (mAdd (mVar 1) (mC (.int 1))) mA0)))) (mSeq (mSet 4 (mC (.int 0))) (mSeq (mIfS (mB (mEq (mOp gLen (mAc (mVar 3) mA0)) (mAdd (mVar 1) (mC (.int 1))))) (mSet 4 (mOp gMin (mAc (mLc (mSq (mVar 3)) [5] (tgV 5) mYes (mIxd (mVar 5) (mC (.int 1)))) mA0))) mNx) (mSeq (mSet 6 (mSrt (mLc (mSq (mVar 3)) [5] (tgV 5) (mB (mGt (mIxd (mVar 5) (mC (.int 1))) (mVar 4))) (mSub (mIxd (mVar 5) (mC (.int 1))) (mVar 4))))) (mSeq (mSet 7 (mSrt (mLc (mSq (mIxd (mCall none S_law_cancelled (mAc (mVar 2) (mAc (mVar 1) mA0))) (mC (.int 0)))) [8] (tgV 8) mYes (mIxd (mVar 8) (mC (.int 1)))))) (mRet (mAndV (mEq (mVar 6) (mVar 7)) (mEq (mSrt (mLc (mSq (mIxd (mCall none S_counter_summary (mAc (mVar 2) (mAc (mVar 1) mA0))) (mC (.int 0)))) [8] (tgV 8) mYes (mIxd (mVar 8) (mC (.int 1))))) (mVar 7))))))))))
def S_law_as_one : Mir := mDef none 9 S_law_as_oneb
end
end Zk
namespace Zk.Be
noncomputable section
open PySem PySem.Spec PyProof.Rows L2 Zk
abbrev Tb := List (Int × Int × Int)
/-- the key of the least count, the least key of several -/
def leastK (T : Tb) : Int := (minP (T.map fun p => (p.2.1, p.1))).2
def stepT (k : Int) (T : Tb) (q : Int × Int) : Tb :=
  match getV T q.1 with
  | some v => putV T q.1 (v.1 + q.2, v.2)
  | none => if (T.length : Int) < k then putV T q.1 (q.2, 0) else
    let g := leastK T
    let c := ((getV T g).getD (0, 0)).1
    putV (delV T g) q.1 (c + q.2, c)
def sumT (k : Int) (st : List (Int × Int)) : Tb := st.foldl (stepT k) []
theorem sumT_app (k : Int) (a : List (Int × Int)) (p : Int × Int) : sumT k (a ++ [p]) = stepT k (sumT k a) p := by simp [sumT]
def asE (T : Tb) : Tb := (srt (T.map (·.1))).map fun k => (k, (getV T k).getD (0, 0))
def eD3 (p : Int × Int × Int) : D := .tup [.int p.1, .int p.2.1, .int p.2.2]
@[simp] theorem imm_eD3 (p : Int × Int × Int) : imm (eD3 p) = true := rfl
theorem least_W {T : Tb} (hT : T ≠ []) (hl : T.length ≤ 1000) : S_least_entry [dV pr T] = some (.int (leastK T), 9, .non) := by
  have go : W (S_least_entry [dV pr T]) fun r => r = (.int (leastK T), 9, .non) := by
    refine W_O fun Q' hQ => ?_
    unfold S_least_entry S_least_entryb
    rw [W_mDef]
    unfold dV
    have it := itmD_dV (f := pr) T
    simp (disch := first | assumption | (simp; done) | omega) [ent0_def, W_lc0, it]
    refine W_lcY (xs := T) (ι := fun p => D.tup [.int p.1, pr p.2]) (fun p => pr (p.2.1, p.1)) (fun _ => by simp) (by rw [sizeL]; omega) (fun p hp => ?_) fun acc ha hu => ?_
    · simp (disch := first | assumption | (simp; done) | omega) [pr, W_tgT, W_tgV]
    · have e : acc.map (·.1) = (T.map fun p => (p.2.1, p.1)).map pr := by rw [ha, List.map_map]; rfl
      have gm : gMinP [.lst ((T.map fun p => (p.2.1, p.1)).map pr)] = some (pr (minP (T.map fun p => (p.2.1, p.1))), 9) := by
        have pe : prD = pr := rfl
        rw [← pe]
        simp only [gMinP, pof_map, Option.bind_some]
        rw [if_neg (by simpa using hT)]
      have i1 : ∀ p : Int × Int, gIxd [pr p, .int 1] = some (.int p.2, 0) := fun p => by unfold pr; rw [gIxd_tup, gIx_tup, atI_1]; rfl
      simp (disch := first | assumption | (simp; done) | omega) [e, hu, gm, i1, -List.map_map]
      exact hQ _ rfl
  obtain ⟨r, e, rfl⟩ := go
  exact e
theorem minOf_mem (p : Int × Int) : ∀ ps : List (Int × Int), PySem.W.minOf p ps ∈ p :: ps := fun ps => by
  unfold PySem.W.minOf
  induction ps generalizing p with
  | nil => simp
  | cons q ps ih =>
    rw [List.foldl_cons]
    have := ih (if PySem.W.DatumOrd.lt q p = true then q else p)
    rcases List.mem_cons.mp this with h | h
    · rw [h]
      split <;> simp
    · exact List.mem_cons_of_mem _ (List.mem_cons_of_mem _ h)
theorem minP_mem {ps : List (Int × Int)} (h : ps ≠ []) : minP ps ∈ ps := by
  cases ps with
  | nil => exact absurd rfl h
  | cons p ps => exact minOf_mem p ps
theorem getV_some {β : Type} {m : List (Int × β)} {p : Int × β} (h : p ∈ m) : (getV m p.1).isSome = true := by
  unfold getV
  cases e : m.find? fun q => decide (q.1 = p.1) with
  | none => exact absurd (List.find?_eq_none.mp e p h) (by simp)
  | some q => rfl
theorem least_in {T : Tb} (h : T ≠ []) : ∃ v, getV T (leastK T) = some v := by
  have := minP_mem (ps := T.map fun p => (p.2.1, p.1)) (by simpa using h)
  obtain ⟨p, hp, e⟩ := List.mem_map.mp this
  have e2 : leastK T = p.1 := by unfold leastK; rw [← e]
  rw [e2]
  exact Option.isSome_iff_exists.mp (getV_some hp)
theorem putV_len {β : Type} (m : List (Int × β)) (k : Int) (v : β) : (putV m k v).length ≤ m.length + 1 := by
  unfold putV
  split <;> simp
theorem stepT_len (k : Int) (T : Tb) (q : Int × Int) : (stepT k T q).length ≤ T.length + 1 := by
  unfold stepT
  split
  · exact putV_len _ _ _
  · split
    · exact putV_len _ _ _
    · refine Nat.le_trans (putV_len _ _ _) (Nat.succ_le_succ ?_)
      exact List.length_filter_le _ _
theorem sumT_len (k : Int) : ∀ st : List (Int × Int), (sumT k st).length ≤ st.length := fun st => by
  have go : ∀ (st : List (Int × Int)) (T : Tb), (st.foldl (stepT k) T).length ≤ T.length + st.length := fun st => by
    induction st with
    | nil => intro T; simp
    | cons p st ih =>
      intro T
      rw [List.foldl_cons, List.length_cons]
      have := ih (stepT k T p)
      have := stepT_len k T p
      omega
  have := go st []
  simpa [sumT] using this
theorem i0_pr (p : Int × Int) : gIxd [pr p, .int 0] = some (.int p.1, 0) := by unfold pr; rw [gIxd_tup, gIx_tup, atI_z]; rfl
theorem i1_pr (p : Int × Int) : gIxd [pr p, .int 1] = some (.int p.2, 0) := by unfold pr; rw [gIxd_tup, gIx_tup, atI_1]; rfl
theorem put_pr (T : Tb) (n nv : Nat) (k a b : Int) : putOf (dV pr T, n + 1) (.int k) (.tup [.int a, .int b]) nv = if T.length < sizeLine then some (dV pr (putV T k (a, b)), n + 1) else none := putOf_dV (f := pr) (fun _ => by simp) T n nv k (a, b)
theorem space_W {st : List (Int × Int)} (hl : st.length ≤ 200) {k : Int} (hk : 1 ≤ k) : S_space_summary [.tup (st.map pr), .int k] = some (.tup ((asE (sumT k st)).map eD3), 9, .non) := by
  have go : W (S_space_summary [.tup (st.map pr), .int k]) fun r => r = (.tup ((asE (sumT k st)).map eD3), 9, .non) := by
    refine W_O fun Q' hQ => ?_
    unfold S_space_summary S_space_summaryb
    rw [W_mDef]
    have is := imms_map' imm_pr st
    (refine Zk.W_seqE (E1 := ?wE210) ?wa210 ?wb210; (case wa210 => (simp (disch := first | assumption | (simp; done) | omega) [ent0_def]; exact rfl)))
    rw [dV_nil pr]
    have c0 : sumT k [] = [] := rfl
    (refine Zk.W_forS ?wE292 st pr [3, 4, 5, 6, 7, 8] (fun (_ : Unit) a => [(2, some (dV pr (sumT k a), 9))]) (fun _ _ => True) () ?wa292 ?wb292 ?_ ?_ ?_; (case wa292 => (simp (disch := first | assumption | (simp; done) | omega) [is, c0]; exact rfl)); (case wb292 => (simp (disch := first | assumption | (simp; done) | omega) [Zk.sets, is, c0])))
    · trivial
    · intro _ a p b I' e _ hI
      simp only [Zk.AllU, Zk.sets, List.set_cons_succ, List.set_cons_zero, List.set_nil] at *
      intro u3 u4 u5 u6 u7 u8
      refine W_tg2 (by simp) (by simp) ?_
      have hI := hI () trivial
      rw [sumT_app] at hI
      have tl := sumT_len k a
      have al : a.length ≤ 200 := by rw [e] at hl; simp at hl; omega
      generalize sumT k a = T at *
      have tz : T.length < sizeLine := by rw [sizeL]; omega
      cases hg : getV T p.1 with
      | some v =>
        have es : stepT k T p = putV T p.1 (v.1 + p.2, v.2) := by unfold stepT; rw [hg]
        rw [es] at hI
        (refine Zk.W_ifT (E1 := ?wE211) ?wa211 ?wb211; (case wa211 => (simp (disch := first | assumption | (simp; done) | omega) [hg]; exact rfl)))
        (refine Zk.W_seqE (E1 := ?wE212) ?wa212 ?wb212; (case wa212 => (simp (disch := first | assumption | (simp; done) | omega) [hg, pr, W_tgT, W_tgV]; exact rfl)))
        simp (disch := first | assumption | (simp; done) | omega) [put_pr, tz]
        apply hI
      | none =>
        (refine Zk.W_ifF (E1 := ?wE213) ?wa213 ?wb213; (case wa213 => (simp (disch := first | assumption | (simp; done) | omega) [hg]; exact rfl)))
        by_cases c : (T.length : Int) < k
        · have es : stepT k T p = putV T p.1 (p.2, 0) := by unfold stepT; rw [hg]; simp only [if_pos c]
          rw [es] at hI
          (refine Zk.W_ifT (E1 := ?wE214) ?wa214 ?wb214; (case wa214 => (simp (disch := first | assumption | (simp; done) | omega) [c]; exact rfl)))
          simp (disch := first | assumption | (simp; done) | omega) [put_pr, tz]
          apply hI
        · have ne : T ≠ [] := fun z => by rw [z] at c; simp at c; omega
          obtain ⟨v, hv⟩ := least_in ne
          have es : stepT k T p = putV (delV T (leastK T)) p.1 (v.1 + p.2, v.1) := by unfold stepT; rw [hg]; simp only [if_neg c, hv, Option.getD_some]
          rw [es] at hI
          have lw := least_W ne (by omega)
          (refine Zk.W_ifF (E1 := ?wE215) ?wa215 ?wb215; (case wa215 => (simp (disch := first | assumption | (simp; done) | omega) [c]; exact rfl)))
          generalize leastK T = g at *
          (refine Zk.W_seqE (E1 := ?wE216) ?wa216 ?wb216; (case wa216 => (simp (disch := first | assumption | (simp; done) | omega) [lw, dem1]; exact rfl)))
          (refine Zk.W_seqE (E1 := ?wE217) ?wa217 ?wb217; (case wa217 => (simp (disch := first | assumption | (simp; done) | omega) [hv, i0_pr]; exact rfl)))
          refine W_seqO (J := fun E => E = [some (.tup (st.map pr), 0), some (.int k, 0), some (dV pr (delV T g), 9), some (.int p.1, 0), some (.int p.2, 0), u5, u6, some (.int g, 9), some (.int v.1, 9)]) ?_ ?_
          · intro J' hJ
            rw [W_del]
            refine ⟨rfl, ?_⟩
            simp (disch := first | assumption | (simp; done) | omega) [-W_delAt]
            refine W_delV (f := pr) (fun _ => by simp) rfl (by rw [hv]; rfl) ?_
            exact ⟨rfl, hJ _ rfl⟩
          rintro _ rfl
          have dz : (delV T g).length < sizeLine := Nat.lt_of_le_of_lt (List.length_filter_le _ _) tz
          simp (disch := first | assumption | (simp; done) | omega) [put_pr, dz]
          apply hI
    intro _ _
    simp only [Zk.AllU, Zk.sets, List.set_cons_succ, List.set_cons_zero, List.set_nil] at *
    intro u3 u4 u5 u6 u7 u8
    have tl := sumT_len k st
    generalize sumT k st = T at *
    have kl : (srt (T.map (·.1))).length = T.length := by rw [(srt_perm _).length_eq, List.length_map]
    have fl : flat (dV pr T) = true := imms_dV (f := pr) (fun _ => by simp) T
    simp (disch := first | assumption | (simp; done) | omega) [W_lc0, fl]
    refine W_lcY (xs := srt (T.map (·.1))) (ι := D.int) (fun x => eD3 (x, (getV T x).getD (0, 0))) (fun _ => rfl) (by rw [sizeL]; omega) (fun x hx => ?_) fun acc ha hu => ?_
    · obtain ⟨q, hq, rfl⟩ := List.mem_map.mp ((srt_perm _).mem_iff.mp hx)
      obtain ⟨v, hv⟩ := Option.isSome_iff_exists.mp (getV_some hq)
      simp (disch := first | assumption | (simp; done) | omega) [hv, i0_pr, i1_pr, eD3]
    · have e : acc.map (·.1) = (asE T).map eD3 := by rw [ha, asE, List.map_map]; rfl
      have im : imms ((asE T).map eD3) = true := imms_map' (fun _ => rfl) _
      simp (disch := first | assumption | (simp; done) | omega) [e, hu, im, -List.map_map]
      exact hQ _ rfl
  obtain ⟨r, e, rfl⟩ := go
  exact e
end
end Zk.Be
namespace Zk.Be
noncomputable section
open PySem PySem.Spec PyProof.Rows L2 Zk Zk.Bb
theorem plt_iff (p q : Int × Int) : PySem.W.DatumOrd.lt p q = true ↔ p.1 < q.1 ∨ (p.1 = q.1 ∧ p.2 < q.2) := by
  show (if p.1 = q.1 then decide (p.2 < q.2) else decide (p.1 < q.1)) = true ↔ _
  by_cases c : p.1 = q.1
  · rw [if_pos c, decide_eq_true_eq]; omega
  · rw [if_neg c, decide_eq_true_eq]; omega
theorem minOf_le : ∀ (ps : List (Int × Int)) (p q : Int × Int), q ∈ p :: ps → (PySem.W.minOf p ps).1 < q.1 ∨ ((PySem.W.minOf p ps).1 = q.1 ∧ (PySem.W.minOf p ps).2 ≤ q.2) := fun ps => by
  unfold PySem.W.minOf
  induction ps with
  | nil => intro p q h; rw [List.mem_singleton.mp h]; exact Or.inr ⟨rfl, Int.le_refl _⟩
  | cons r ps ih =>
    intro p q h
    rw [List.foldl_cons]
    by_cases c : PySem.W.DatumOrd.lt r p = true
    · rw [if_pos c]
      have c2 := (plt_iff r p).mp c
      rcases List.mem_cons.mp h with rfl | h
      · have := ih r r List.mem_cons_self
        omega
      · exact ih r q h
    · rw [if_neg c]
      have c2 : ¬ (r.1 < p.1 ∨ (r.1 = p.1 ∧ r.2 < p.2)) := fun z => c ((plt_iff r p).mpr z)
      rcases List.mem_cons.mp h with rfl | h
      · exact ih q q List.mem_cons_self
      · rcases List.mem_cons.mp h with rfl | h
        · have := ih p p List.mem_cons_self
          omega
        · exact ih p q (List.mem_cons_of_mem _ h)
theorem minP_le {ps : List (Int × Int)} {p : Int × Int} (h : p ∈ ps) : (minP ps).1 < p.1 ∨ ((minP ps).1 = p.1 ∧ (minP ps).2 ≤ p.2) := by
  cases ps with
  | nil => cases h
  | cons q ps => exact minOf_le ps q p h
/-- the count of a key, 0 if it is not there -/
def tv (U : List (Int × Int)) (x : Int) : Int := (getI U x).getD 0
structure Gd (U : List (Int × Int)) : Prop where
  nd : (keysI U).Nodup
  pos : ∀ p ∈ U, 1 ≤ p.2
theorem Gd.get {U : List (Int × Int)} (h : Gd U) {p : Int × Int} (hp : p ∈ U) : tv U p.1 = p.2 := by unfold tv; rw [get_at h.nd hp]; rfl
theorem in_of {U : List (Int × Int)} {x v : Int} (h : getI U x = some v) : (x, v) ∈ U := by
  unfold getI at h
  obtain ⟨p, hp, rfl⟩ := Option.map_eq_some_iff.mp h
  have h1 := List.mem_of_find?_eq_some hp
  have h2 : p.1 = x := by have := List.find?_some hp; simpa using this
  rw [← h2]; exact h1
theorem Gd.of {U : List (Int × Int)} {x : Int} (hx : 1 ≤ tv U x) : (x, tv U x) ∈ U := by
  unfold tv at *
  cases e : getI U x with
  | none => rw [e] at hx; simp at hx
  | some v => exact in_of e
theorem Gd.mem {U : List (Int × Int)} (h : Gd U) {x : Int} : x ∈ keysI U ↔ 1 ≤ tv U x := by
  constructor
  · intro hx
    obtain ⟨p, hp, rfl⟩ := List.mem_map.mp hx
    rw [h.get hp]; exact h.pos p hp
  · intro hx
    exact List.mem_map.mpr ⟨_, Gd.of hx, rfl⟩
theorem Gd.zero {U : List (Int × Int)} (h : Gd U) {x : Int} (hx : ¬ x ∈ keysI U) : tv U x = 0 := by
  unfold tv
  cases e : getI U x with
  | none => rfl
  | some v => exact absurd (List.mem_map.mpr ⟨_, in_of e, rfl⟩) hx
theorem Gd.ge {U : List (Int × Int)} (h : Gd U) (x : Int) : 0 ≤ tv U x := by
  by_cases c : x ∈ keysI U
  · have := h.mem.mp c; omega
  · rw [h.zero c]; omega
theorem keysI_len (U : List (Int × Int)) : (keysI U).length = U.length := by simp [keysI]
/-- the amount by which the one stands above the other -/
def IsM (k : Nat) (U : List (Int × Int)) (m : Int) : Prop :=
  (U.length ≤ k ∧ m = 0) ∨ (U.length = k + 1 ∧ (∃ x, 1 ≤ tv U x ∧ tv U x = m) ∧ ∀ x, 1 ≤ tv U x → m ≤ tv U x)
def above (m : Int) (U : List (Int × Int)) : List (Int × Int) := U.filter fun p => decide (m < p.2)
def below (m : Int) (U : List (Int × Int)) : List (Int × Int) := U.filter fun p => !decide (m < p.2)
theorem two_parts (m : Int) (U : List (Int × Int)) : (above m U).length + (below m U).length = U.length := by
  unfold above below
  induction U with
  | nil => rfl
  | cons p U ih =>
    by_cases c : m < p.2
    · simp [List.filter_cons, c] at ih ⊢; omega
    · simp [List.filter_cons, c] at ih ⊢; omega
theorem perm_above {U M : List (Int × Int)} (hU : Gd U) (hM : Gd M) {m : Int} (hm : 0 ≤ m) (h : ∀ x, tv M x = max 0 (tv U x - m)) : M.Perm ((above m U).map fun p => (p.1, p.2 - m)) := by
  have kk : ∀ l : List (Int × Int), (keysI l).Nodup → l.Nodup := fun l hl => by
    induction l with
    | nil => simp
    | cons a l ih =>
      have : a.1 ∉ keysI l ∧ (keysI l).Nodup := List.nodup_cons.mp hl
      exact List.nodup_cons.mpr ⟨fun z => this.1 (List.mem_map.mpr ⟨_, z, rfl⟩), ih this.2⟩
  refine (List.perm_ext_iff_of_nodup (kk _ hM.nd) (kk _ ?_)).mpr fun p => ?_
  · have : keysI ((above m U).map fun p => (p.1, p.2 - m)) = keysI (above m U) := by unfold keysI; rw [List.map_map]; rfl
    rw [this]
    exact ((List.filter_sublist (l := U)).map _).nodup hU.nd
  · constructor
    · intro hp
      have a := hM.get hp
      have b := hM.pos p hp
      have c := h p.1
      have t : tv U p.1 = p.2 + m := by omega
      refine List.mem_map.mpr ⟨(p.1, tv U p.1), List.mem_filter.mpr ⟨Gd.of (by omega), decide_eq_true (by show m < tv U p.1; omega)⟩, ?_⟩
      exact Prod.ext rfl (by show tv U p.1 - m = p.2; omega)
    · intro hp
      obtain ⟨q, hq, rfl⟩ := List.mem_map.mp hp
      obtain ⟨h1, h2⟩ := List.mem_filter.mp hq
      have h2 := of_decide_eq_true h2
      have a := hU.get h1
      have c := h q.1
      have t : tv M q.1 = q.2 - m := by omega
      show (q.1, q.2 - m) ∈ M
      rw [← t]
      exact Gd.of (by omega)
theorem card_above {U M : List (Int × Int)} (hU : Gd U) (hM : Gd M) {m : Int} (hm : 0 ≤ m) (h : ∀ x, tv M x = max 0 (tv U x - m)) : M.length + (below m U).length = U.length := by
  rw [(perm_above hU hM hm h).length_eq, List.length_map, two_parts]
/-- two members are two -/
theorem two_le {l : List (Int × Int)} {p q : Int × Int} (hp : p ∈ l) (hq : q ∈ l) (n : p ≠ q) : 2 ≤ l.length := by
  cases l with
  | nil => cases hp
  | cons a l =>
    cases l with
    | nil => exact absurd ((List.mem_singleton.mp hp).trans (List.mem_singleton.mp hq).symm) n
    | cons b l => simp
theorem le_one {l : List (Int × Int)} {x : Int} (nd : (keysI l).Nodup) (h : ∀ p ∈ l, p.1 = x) : l.length ≤ 1 := by
  cases l with
  | nil => simp
  | cons a l =>
    cases l with
    | nil => simp
    | cons b l =>
      have : a.1 ∉ keysI (b :: l) := (List.nodup_cons.mp nd).1
      exact absurd (List.mem_map.mpr ⟨b, List.mem_cons_self, by rw [h b (by simp), h a (by simp)]⟩) this
def cM (k : Nat) (M : List (Int × Int)) (x : Int) : List (Int × Int) :=
  let m1 := putI M x ((getI M x).getD 0 + 1)
  if k < m1.length then lowI m1 (minL (m1.map (·.2))) else m1
theorem tv_low {M : List (Int × Int)} (h : Gd M) {a : Int} (ha : 0 ≤ a) : Gd (lowI M a) ∧ ∀ y, tv (lowI M a) y = max 0 (tv M y - a) := by
  have g : Gd (lowI M a) := by
    refine ⟨(lowI_keys M a).nodup h.nd, fun p hp => ?_⟩
    obtain ⟨q, hq, rfl⟩ := List.mem_map.mp hp
    have := of_decide_eq_true (List.mem_filter.mp hq).2
    show 1 ≤ q.2 - a
    omega
  refine ⟨g, fun y => ?_⟩
  by_cases c : a < tv M y
  · have i1 := Gd.of (U := M) (x := y) (by omega)
    have : (y, tv M y - a) ∈ lowI M a := List.mem_map.mpr ⟨(y, tv M y), List.mem_filter.mpr ⟨i1, decide_eq_true c⟩, rfl⟩
    have := g.get this
    simp only at this
    omega
  · have : ¬ y ∈ keysI (lowI M a) := fun z => by
      obtain ⟨p, hp, rfl⟩ := List.mem_map.mp z
      obtain ⟨q, hq, rfl⟩ := List.mem_map.mp hp
      obtain ⟨h1, h2⟩ := List.mem_filter.mp hq
      have := h.get h1
      have := of_decide_eq_true h2
      exact c (by show a < tv M q.1; omega)
    rw [g.zero this]
    omega
/-- a unit more, of counters -/
theorem cM_step {k : Nat} (hk : 1 ≤ k) {M : List (Int × Int)} (h : Gd M) (hl : M.length ≤ k) (x : Int) :
    Gd (cM k M x) ∧ ((M.length = k ∧ tv M x = 0) → ∀ y, tv (cM k M x) y = max 0 (tv M y + (if y = x then 1 else 0) - 1)) ∧
    (¬ (M.length = k ∧ tv M x = 0) → ∀ y, tv (cM k M x) y = tv M y + if y = x then 1 else 0) := by
  have hm1 : Gd (putI M x (tv M x + 1)) := by
    refine ⟨putI_nd h.nd _ _, fun p hp => ?_⟩
    have e := get_at (putI_nd h.nd x (tv M x + 1)) hp
    rw [get_put] at e
    by_cases c : p.1 = x
    · rw [if_pos c] at e
      have := h.ge x
      have := Option.some.inj e
      omega
    · rw [if_neg c] at e
      exact h.pos _ (in_of e)
  have tm1 : ∀ y, tv (putI M x (tv M x + 1)) y = tv M y + if y = x then 1 else 0 := fun y => by
    show (getI (putI M x (tv M x + 1)) y).getD 0 = _
    rw [get_put]
    by_cases c : y = x
    · subst c; simp
    · rw [if_neg c, if_neg c]; simp [tv]
  have len : (putI M x (tv M x + 1)).length = if x ∈ keysI M then M.length else M.length + 1 := by
    rw [← keysI_len, keysI_put, ← keysI_len M]
    split <;> simp
  have ed : cM k M x = if k < (putI M x (tv M x + 1)).length then lowI (putI M x (tv M x + 1)) (minL ((putI M x (tv M x + 1)).map (·.2))) else putI M x (tv M x + 1) := rfl
  generalize putI M x (tv M x + 1) = m1 at *
  have cond : k < m1.length ↔ (M.length = k ∧ tv M x = 0) := by
    rw [len]
    by_cases c : x ∈ keysI M
    · rw [if_pos c]
      have := h.mem.mp c
      omega
    · rw [if_neg c]
      have := h.zero c
      omega
  by_cases c : M.length = k ∧ tv M x = 0
  · have mn : minL (m1.map (·.2)) = 1 := by
      have ix : (x, tv m1 x) ∈ m1 := Gd.of (by rw [tm1, if_pos rfl, c.2]; omega)
      have i1 : (1 : Int) ∈ m1.map (·.2) := List.mem_map.mpr ⟨_, ix, by show tv m1 x = 1; rw [tm1, if_pos rfl, c.2]; rfl⟩
      obtain ⟨a, b⟩ := minL_mem (ns := m1.map (·.2)) (fun z => by rw [z] at i1; cases i1)
      have := b 1 i1
      obtain ⟨q, hq, e⟩ := List.mem_map.mp a
      have := hm1.pos q hq
      omega
    rw [if_pos (cond.mpr c), mn] at ed
    obtain ⟨g, t⟩ := tv_low hm1 (a := 1) (by omega)
    rw [ed]
    refine ⟨g, fun _ y => ?_, fun z => absurd c z⟩
    rw [t, tm1]
  · rw [if_neg (fun z => c (cond.mp z))] at ed
    rw [ed]
    exact ⟨hm1, fun z => absurd z c, fun _ => tm1⟩
def Inv1 (k : Nat) (U M : List (Int × Int)) : Prop := Gd U ∧ Gd M ∧ U.length ≤ k + 1 ∧ ∃ m, 0 ≤ m ∧ IsM k U m ∧ ∀ x, tv M x = max 0 (tv U x - m)
theorem below_mem {U : List (Int × Int)} (hU : Gd U) {m x : Int} (h1 : 1 ≤ tv U x) (h2 : tv U x ≤ m) : (x, tv U x) ∈ below m U :=
  List.mem_filter.mpr ⟨Gd.of h1, by simp; omega⟩
theorem of_below {U : List (Int × Int)} (hU : Gd U) {m : Int} {p : Int × Int} (h : p ∈ below m U) : 1 ≤ tv U p.1 ∧ tv U p.1 ≤ m := by
  obtain ⟨a, b⟩ := List.mem_filter.mp h
  rw [hU.get a]
  exact ⟨hU.pos p a, by simp at b; omega⟩
theorem below_nd {U : List (Int × Int)} (hU : Gd U) (m : Int) : (keysI (below m U)).Nodup := ((List.filter_sublist (l := U)).map _).nodup hU.nd
/-- the step keeps the tie of the two -/
theorem inv1_step {k : Nat} (hk : 1 ≤ k) {U M U' : List (Int × Int)} (h : Inv1 k U M) (x : Int) (hU' : Gd U')
    (st : (¬ (tv U x = 0 ∧ U.length = k + 1) ∧ U'.length = (if tv U x = 0 then U.length + 1 else U.length) ∧ ∀ y, tv U' y = tv U y + if y = x then 1 else 0) ∨
      ((tv U x = 0 ∧ U.length = k + 1) ∧ U'.length = U.length ∧ ∃ g, 1 ≤ tv U g ∧ (∀ y, 1 ≤ tv U y → tv U g ≤ tv U y) ∧ ∀ y, tv U' y = if y = x then tv U g + 1 else if y = g then 0 else tv U y)) :
    Inv1 k U' (cM k M x) := by
  obtain ⟨hU, hM, hl, m, hm, im, t⟩ := h
  have card := card_above hU hM hm t
  have tx := t x
  have ux := hU.ge x
  rcases im with ⟨l0, rfl⟩ | ⟨l1, ⟨z, hz, ez⟩, lo⟩
  · -- not full
    have b0 : (below 0 U).length = 0 := by
      cases e : below 0 U with
      | nil => rfl
      | cons p l =>
        have := of_below hU (m := 0) (p := p) (by rw [e]; simp)
        omega
    obtain ⟨gM, c1, c2⟩ := cM_step hk hM (by omega) x
    rcases st with ⟨_, ul, ut⟩ | ⟨⟨_, z⟩, _⟩
    · by_cases c : U.length = k ∧ tv U x = 0
      · have c1 := c1 ⟨by omega, by omega⟩
        rw [if_pos c.2] at ul
        refine ⟨hU', gM, by omega, 1, by omega, Or.inr ⟨by omega, ⟨x, ?_, ?_⟩, fun y hy => hy⟩, fun y => ?_⟩
        · rw [ut, if_pos rfl]; omega
        · rw [ut, if_pos rfl]; omega
        · rw [c1, ut, t]
          have := hU.ge y
          split <;> omega
      · have c2 := c2 (fun z => c ⟨by omega, by omega⟩)
        refine ⟨hU', gM, by split at ul <;> omega, 0, by omega, Or.inl ⟨by split at ul <;> omega, rfl⟩, fun y => ?_⟩
        rw [c2, ut, t]
        have := hU.ge y
        split <;> omega
    · omega
  · -- full
    have bz : (z, tv U z) ∈ below m U := below_mem hU hz (by omega)
    have bl : 1 ≤ (below m U).length := List.length_pos_iff.mpr (List.ne_nil_of_mem bz)
    obtain ⟨gM, c1, c2⟩ := cM_step hk hM (by omega) x
    have only : ∀ g, (∀ y, y ≠ g → 1 ≤ tv U y → m < tv U y) → M.length = k := fun g hg => by
      have := le_one (x := g) (below_nd hU m) (fun p hp => by
        obtain ⟨h1, h2⟩ := of_below hU hp
        by_cases c : p.1 = g
        · exact c
        · have := hg p.1 c h1
          omega)
      omega
    have more : ∀ g y, 1 ≤ tv U g → tv U g = m → 1 ≤ tv U y → tv U y = m → y ≠ g → M.length < k := fun g y h1 h2 h3 h4 n => by
      have := two_le (below_mem hU h1 (Int.le_of_eq h2)) (below_mem hU h3 (Int.le_of_eq h4)) (fun e => n (congrArg Prod.fst e).symm)
      omega
    rcases st with ⟨n, ul, ut⟩ | ⟨⟨x0, _⟩, ul, g, hg, lg, ut⟩
    · have x1 : ¬ tv U x = 0 := fun z => n ⟨z, l1⟩
      rw [if_neg x1] at ul
      have lx := lo x (by omega)
      by_cases c : m < tv U x
      · have c2 := c2 (fun z => by omega)
        refine ⟨hU', gM, by omega, m, hm, Or.inr ⟨by omega, ⟨z, ?_, ?_⟩, fun y hy => ?_⟩, fun y => ?_⟩
        · rw [ut, if_neg (fun e => by subst e; omega)]; omega
        · rw [ut, if_neg (fun e => by subst e; omega)]; omega
        · rw [ut] at hy ⊢
          by_cases e : y = x
          · rw [if_pos e]; subst e; omega
          · rw [if_neg e] at hy ⊢
            have := lo y (by omega)
            omega
        · rw [c2, ut, t]
          by_cases e : y = x
          · rw [if_pos e]; subst e; omega
          · rw [if_neg e]; omega
      · by_cases d : ∃ y, y ≠ x ∧ 1 ≤ tv U y ∧ tv U y = m
        · obtain ⟨w, n1, n2, n3⟩ := d
          have := more x w (by omega) (by omega) n2 n3 n1
          have c2 := c2 (fun z => by omega)
          refine ⟨hU', gM, by omega, m, hm, Or.inr ⟨by omega, ⟨w, ?_, ?_⟩, fun y hy => ?_⟩, fun y => ?_⟩
          · rw [ut, if_neg n1]; omega
          · rw [ut, if_neg n1]; omega
          · rw [ut] at hy ⊢
            by_cases e : y = x
            · rw [if_pos e]; subst e; omega
            · rw [if_neg e] at hy ⊢
              have := lo y (by omega)
              omega
          · rw [c2, ut, t]
            by_cases e : y = x
            · rw [if_pos e]; subst e; omega
            · rw [if_neg e]; omega
        · have oth : ∀ y, y ≠ x → 1 ≤ tv U y → m < tv U y := fun y n1 n2 => by
            have := lo y n2
            have : ¬ tv U y = m := fun z => d ⟨y, n1, n2, z⟩
            omega
          have ml := only x oth
          have c1 := c1 ⟨ml, by omega⟩
          refine ⟨hU', gM, by omega, m + 1, by omega, Or.inr ⟨by omega, ⟨x, ?_, ?_⟩, fun y hy => ?_⟩, fun y => ?_⟩
          · rw [ut, if_pos rfl]; omega
          · rw [ut, if_pos rfl]; omega
          · rw [ut] at hy ⊢
            by_cases e : y = x
            · rw [if_pos e]; subst e; omega
            · rw [if_neg e] at hy ⊢
              have := oth y e (by omega)
              omega
          · rw [c1, ut, t]
            have := hU.ge y
            by_cases e : y = x
            · rw [if_pos e]; subst e; omega
            · rw [if_neg e]
              omega
    · have eg : tv U g = m := by have := lo g hg; have := lg z hz; omega
      have xg : x ≠ g := fun e => by subst e; omega
      by_cases d : ∃ y, y ≠ g ∧ 1 ≤ tv U y ∧ tv U y = m
      · obtain ⟨w, n1, n2, n3⟩ := d
        have := more g w (by omega) (by omega) n2 n3 n1
        have c2 := c2 (fun z => by omega)
        have wx : w ≠ x := fun e => by subst e; omega
        refine ⟨hU', gM, by omega, m, hm, Or.inr ⟨by omega, ⟨w, ?_, ?_⟩, fun y hy => ?_⟩, fun y => ?_⟩
        · rw [ut, if_neg wx, if_neg n1]; omega
        · rw [ut, if_neg wx, if_neg n1]; omega
        · rw [ut] at hy ⊢
          by_cases e : y = x
          · rw [if_pos e]; omega
          · rw [if_neg e] at hy ⊢
            by_cases e2 : y = g
            · rw [if_pos e2] at hy; omega
            · rw [if_neg e2] at hy ⊢
              exact lo y hy
        · rw [c2, ut, t]
          by_cases e : y = x
          · rw [if_pos e, if_pos e]; subst e; omega
          · rw [if_neg e, if_neg e]
            by_cases e2 : y = g
            · rw [if_pos e2]; subst e2; omega
            · rw [if_neg e2]; omega
      · have oth : ∀ y, y ≠ g → 1 ≤ tv U y → m < tv U y := fun y n1 n2 => by
          have := lo y n2
          have : ¬ tv U y = m := fun z => d ⟨y, n1, n2, z⟩
          omega
        have ml := only g oth
        have c1 := c1 ⟨ml, by omega⟩
        refine ⟨hU', gM, by omega, m + 1, by omega, Or.inr ⟨by omega, ⟨x, ?_, ?_⟩, fun y hy => ?_⟩, fun y => ?_⟩
        · rw [ut, if_pos rfl]; omega
        · rw [ut, if_pos rfl]; omega
        · rw [ut] at hy ⊢
          by_cases e : y = x
          · rw [if_pos e]; omega
          · rw [if_neg e] at hy ⊢
            by_cases e2 : y = g
            · rw [if_pos e2] at hy; omega
            · rw [if_neg e2] at hy ⊢
              have := oth y e2 hy
              omega
        · rw [c1, ut, t]
          have := hU.ge y
          by_cases e : y = x
          · rw [if_pos e, if_pos e]; subst e; omega
          · rw [if_neg e, if_neg e]
            by_cases e2 : y = g
            · rw [if_pos e2]; subst e2; omega
            · rw [if_neg e2]
              by_cases e3 : 1 ≤ tv U y
              · have := oth y e2 e3; omega
              · omega
section
variable {β : Type}
theorem inV {m : List (Int × β)} {k : Int} {v : β} (h : getV m k = some v) : (k, v) ∈ m := by
  unfold getV at h
  obtain ⟨p, hp, rfl⟩ := Option.map_eq_some_iff.mp h
  have h1 := List.mem_of_find?_eq_some hp
  have h2 : p.1 = k := by have := List.find?_some hp; simpa using this
  rw [← h2]; exact h1
theorem ndV {m : List (Int × β)} (nd : (m.map (·.1)).Nodup) {p q : Int × β} (hp : p ∈ m) (hq : q ∈ m) (e : p.1 = q.1) : p = q := by
  induction m with
  | nil => cases hp
  | cons a m ih =>
    have nd2 : a.1 ∉ m.map (·.1) ∧ (m.map (·.1)).Nodup := List.nodup_cons.mp nd
    rcases List.mem_cons.mp hp with rfl | hp <;> rcases List.mem_cons.mp hq with rfl | hq
    · rfl
    · exact absurd (List.mem_map.mpr ⟨q, hq, e.symm⟩) nd2.1
    · exact absurd (show q.1 ∈ m.map (·.1) from List.mem_map.mpr ⟨_, by assumption, e⟩) nd2.1
    · exact ih nd2.2 hp hq
theorem getV_at {m : List (Int × β)} (nd : (m.map (·.1)).Nodup) {p : Int × β} (hp : p ∈ m) : getV m p.1 = some p.2 := by
  obtain ⟨v, hv⟩ := Option.isSome_iff_exists.mp (getV_some hp)
  have := ndV nd hp (inV hv) rfl
  rw [hv, this]
theorem getV_none {m : List (Int × β)} {k : Int} (h : ¬ k ∈ m.map (·.1)) : getV m k = none := by
  cases e : getV m k with
  | none => rfl
  | some v => exact absurd (List.mem_map.mpr ⟨_, inV e, rfl⟩) h
theorem putV_keys (m : List (Int × β)) (k : Int) (v : β) : (putV m k v).map (·.1) = if k ∈ m.map (·.1) then m.map (·.1) else m.map (·.1) ++ [k] := by
  have e : ((m.any fun p => decide (p.1 = k)) = true) ↔ k ∈ m.map (·.1) := by
    rw [List.any_eq_true, List.mem_map]
    exact ⟨fun ⟨p, hp, h⟩ => ⟨p, hp, of_decide_eq_true h⟩, fun ⟨p, hp, h⟩ => ⟨p, hp, decide_eq_true h⟩⟩
  unfold putV
  by_cases c : k ∈ m.map (·.1)
  · rw [if_pos c, if_pos (e.mpr c), List.map_map]
    refine List.map_congr_left fun p _ => ?_
    show (if p.1 = k then (p.1, v) else p).1 = p.1
    split <;> rfl
  · rw [if_neg c, if_neg (fun z => c (e.mp z))]; simp
theorem putV_nd {m : List (Int × β)} (nd : (m.map (·.1)).Nodup) (k : Int) (v : β) : ((putV m k v).map (·.1)).Nodup := by
  rw [putV_keys]
  split
  · exact nd
  · rename_i hn
    rw [List.nodup_append]
    exact ⟨nd, by simp, by intro x hx y hy e; simp at hy; subst hy e; exact hn hx⟩
theorem delV_nd {m : List (Int × β)} (nd : (m.map (·.1)).Nodup) (k : Int) : ((delV m k).map (·.1)).Nodup := ((List.filter_sublist (l := m)).map _).nodup nd
theorem nd_of {m : List (Int × β)} (nd : (m.map (·.1)).Nodup) : m.Nodup := by
  induction m with
  | nil => simp
  | cons a m ih =>
    have nd2 : a.1 ∉ m.map (·.1) ∧ (m.map (·.1)).Nodup := List.nodup_cons.mp nd
    exact List.nodup_cons.mpr ⟨fun z => nd2.1 (List.mem_map.mpr ⟨_, z, rfl⟩), ih nd2.2⟩
theorem mem_putV {m : List (Int × β)} (nd : (m.map (·.1)).Nodup) (k : Int) (v : β) (q : Int × β) : q ∈ putV m k v ↔ q = (k, v) ∨ (q ∈ m ∧ q.1 ≠ k) := by
  have nd2 := putV_nd nd k v
  constructor
  · intro h
    have e := getV_at nd2 h
    rw [getV_put] at e
    by_cases c : q.1 = k
    · rw [if_pos c] at e
      exact Or.inl (Prod.ext c (Option.some.inj e).symm)
    · rw [if_neg c] at e
      exact Or.inr ⟨inV e, c⟩
  · rintro (rfl | ⟨h, c⟩)
    · exact inV (by rw [getV_put, if_pos rfl])
    · exact inV (m := putV m k v) (k := q.1) (v := q.2) (by rw [getV_put, if_neg c]; exact getV_at nd h)
theorem putV_perm {m : List (Int × β)} (nd : (m.map (·.1)).Nodup) (k : Int) (v : β) : (m.filter (fun p => decide (p.1 ≠ k)) ++ [(k, v)]).Perm (putV m k v) := by
  refine (List.perm_ext_iff_of_nodup ?_ (nd_of (putV_nd nd k v))).mpr fun q => ?_
  · rw [List.nodup_append]
    refine ⟨List.filter_sublist.nodup (nd_of nd), by simp, ?_⟩
    intro x hx y hy e
    have h2 := of_decide_eq_true (List.mem_filter.mp hx).2
    rw [List.mem_singleton] at hy
    subst e
    subst hy
    exact h2 rfl
  · rw [mem_putV nd, List.mem_append, List.mem_filter, List.mem_singleton]
    constructor
    · rintro (⟨a, b⟩ | a)
      · exact Or.inr ⟨a, of_decide_eq_true b⟩
      · exact Or.inl a
    · rintro (a | ⟨a, b⟩)
      · exact Or.inr a
      · exact Or.inl ⟨a, decide_eq_true b⟩
theorem filter_key {m : List (Int × β)} (nd : (m.map (·.1)).Nodup) (k : Int) : m.filter (fun p => decide (p.1 = k)) = match getV m k with | some v => [(k, v)] | none => [] := by
  induction m with
  | nil => rfl
  | cons a m ih =>
    have nd2 : a.1 ∉ m.map (·.1) ∧ (m.map (·.1)).Nodup := List.nodup_cons.mp nd
    by_cases c : a.1 = k
    · have hn : getV m k = none := getV_none (by rw [← c]; exact nd2.1)
      have e := ih nd2.2
      rw [hn] at e
      have g : getV (a :: m) k = some a.2 := by unfold getV; rw [List.find?_cons]; simp [c]
      rw [g, List.filter_cons, if_pos (decide_eq_true c), e, ← c]
    · have g : getV (a :: m) k = getV m k := by unfold getV; rw [List.find?_cons]; simp [c]
      rw [g, List.filter_cons, if_neg (by simpa using c), ih nd2.2]
end
theorem stepT_nd (k : Int) {T : Tb} (nd : (T.map (·.1)).Nodup) (q : Int × Int) : ((stepT k T q).map (·.1)).Nodup := by
  unfold stepT
  split
  · exact putV_nd nd _ _
  · split
    · exact putV_nd nd _ _
    · exact putV_nd (delV_nd nd _) _ _
theorem sumT_nd (k : Int) (st : List (Int × Int)) : ((sumT k st).map (·.1)).Nodup := by
  have go : ∀ (st : List (Int × Int)) (T : Tb), (T.map (·.1)).Nodup → ((st.foldl (stepT k) T).map (·.1)).Nodup := fun st => by
    induction st with
    | nil => intro T h; exact h
    | cons p st ih => intro T h; exact ih _ (stepT_nd k h p)
  exact go st [] (by simp)
theorem asE_perm {T : Tb} (nd : (T.map (·.1)).Nodup) : (asE T).Perm T := by
  have h := (srt_perm (T.map (·.1))).map fun k => (k, (getV T k).getD (0, 0))
  have e : (T.map (·.1)).map (fun k => (k, (getV T k).getD (0, 0))) = T := by
    rw [List.map_map]
    refine (List.map_congr_left fun p hp => ?_).trans (List.map_id _)
    show (p.1, (getV T p.1).getD (0, 0)) = p
    rw [getV_at nd hp]; rfl
  rw [e] at h
  exact h
theorem asE_sorted {T : Tb} (nd : (T.map (·.1)).Nodup) : (asE T).Pairwise fun a b => a.1 < b.1 := by
  unfold asE
  refine List.pairwise_map.mpr ?_
  have h2 : (srt (T.map (·.1))).Nodup := (srt_perm _).nodup_iff.mpr nd
  have h1 := srt_pair (T.map (·.1))
  refine (h1.and h2).imp fun h => ?_
  have := h.1; have := h.2
  show _ < _
  omega
theorem asE_nd {T : Tb} (nd : (T.map (·.1)).Nodup) : ((asE T).map (·.1)).Nodup := ((asE_perm nd).map _).nodup_iff.mpr nd
theorem asE_get {T : Tb} (nd : (T.map (·.1)).Nodup) (k : Int) : getV (asE T) k = getV T k := by
  cases e : getV T k with
  | none =>
    refine getV_none fun z => ?_
    obtain ⟨p, hp, rfl⟩ := List.mem_map.mp z
    have := getV_some ((asE_perm nd).mem_iff.mp hp)
    rw [e] at this
    cases this
  | some v => exact getV_at (asE_nd nd) ((asE_perm nd).mem_iff.mpr (inV e))
def row3 (p : Int × Int × Int) : List Int := [p.1, p.2.1, p.2.2]
theorem srtL_asE {T L : Tb} (nd : (T.map (·.1)).Nodup) (h : L.Perm T) : srtL (L.map row3) = (asE T).map row3 := by
  refine srtL_uniq ((srtL_perm _).trans ((h.trans (asE_perm nd).symm).map row3)) (srtL_pair _) ?_
  refine List.pairwise_map.mpr ((asE_sorted nd).imp fun {a b} h => ?_)
  show lexL (row3 b) (row3 a) = false
  unfold row3
  rw [lexL_cc, if_neg (by omega)]
  exact decide_eq_false (by omega)
def dropE (L : Tb) (r : Int × Int × Int) : Tb := L.filter fun p => !decide (p = r)
/-- the law's step, before the sort -/
def stepE (k : Int) (L : Tb) (q : Int × Int) : Tb :=
  match L.filter (fun p => decide (p.1 = q.1)) with
  | r :: _ => L.filter (fun p => decide (p.1 ≠ q.1)) ++ [(q.1, r.2.1 + q.2, r.2.2)]
  | [] => if (L.length : Int) < k then L ++ [(q.1, q.2, 0)] else
    dropE L ((L.filter (fun p => decide (p.2.1 = minL (L.map (·.2.1))))).headD (0, 0, 0)) ++ [(q.1, minL (L.map (·.2.1)) + q.2, minL (L.map (·.2.1)))]
theorem goes_is {T : Tb} (nd : (T.map (·.1)).Nodup) (ne : T ≠ []) : ∃ v l, getV T (leastK T) = some v ∧ v.1 = minL ((asE T).map (·.2.1)) ∧ (asE T).filter (fun p => decide (p.2.1 = minL ((asE T).map (·.2.1)))) = (leastK T, v) :: l := by
  have m1 := minP_mem (ps := T.map fun p => (p.2.1, p.1)) (by simpa using ne)
  obtain ⟨p, hp, e⟩ := List.mem_map.mp m1
  have e1 : (minP (T.map fun p => (p.2.1, p.1))).1 = p.2.1 := by rw [← e]
  have e2 : leastK T = p.1 := by unfold leastK; rw [← e]
  have lo : ∀ q ∈ T, p.2.1 < q.2.1 ∨ (p.2.1 = q.2.1 ∧ p.1 ≤ q.1) := fun q hq => by
    have := minP_le (ps := T.map fun p => (p.2.1, p.1)) (List.mem_map.mpr ⟨q, hq, rfl⟩)
    have e3 : (minP (T.map fun p => (p.2.1, p.1))).2 = p.1 := e2
    rw [e1, e3] at this
    exact this
  have pm := asE_perm nd
  have hp2 : p ∈ asE T := pm.mem_iff.mpr hp
  have mn : p.2.1 = minL ((asE T).map (·.2.1)) := by
    have i1 : p.2.1 ∈ (asE T).map (·.2.1) := List.mem_map.mpr ⟨p, hp2, rfl⟩
    obtain ⟨a, b⟩ := minL_mem (ns := (asE T).map (·.2.1)) (fun z => by rw [z] at i1; cases i1)
    obtain ⟨q, hq, e5⟩ := List.mem_map.mp a
    have := lo q (pm.mem_iff.mp hq)
    have := b _ i1
    omega
  have hin : p ∈ (asE T).filter (fun p => decide (p.2.1 = minL ((asE T).map (·.2.1)))) := List.mem_filter.mpr ⟨hp2, decide_eq_true mn⟩
  refine ⟨p.2, ?_⟩
  cases ef : (asE T).filter (fun p => decide (p.2.1 = minL ((asE T).map (·.2.1)))) with
  | nil => rw [ef] at hin; cases hin
  | cons r l =>
    refine ⟨l, by rw [e2]; exact getV_at nd hp, mn, ?_⟩
    have hs := (asE_sorted nd).filter (fun p => decide (p.2.1 = minL ((asE T).map (·.2.1))))
    rw [ef] at hs hin
    have hr : r ∈ (asE T).filter (fun p => decide (p.2.1 = minL ((asE T).map (·.2.1)))) := by rw [ef]; simp
    obtain ⟨r1, r2⟩ := List.mem_filter.mp hr
    have r2 := of_decide_eq_true r2
    have lr := lo r (pm.mem_iff.mp r1)
    have key : r = p := by
      rcases List.mem_cons.mp hin with h | h
      · exact h.symm
      · have := (List.pairwise_cons.mp hs).1 p h
        omega
    rw [key, e2]
theorem stepE_perm {k : Int} (hk : 1 ≤ k) {T : Tb} (nd : (T.map (·.1)).Nodup) (q : Int × Int) : (stepE k (asE T) q).Perm (stepT k T q) := by
  have pm := asE_perm nd
  unfold stepE stepT
  rw [filter_key (asE_nd nd), asE_get nd]
  cases e : getV T q.1 with
  | some v =>
    simp only
    exact ((pm.filter _).append_right _).trans (putV_perm nd _ _)
  | none =>
    simp only
    rw [pm.length_eq]
    have app : ∀ (m : Tb) (nd : (m.map (·.1)).Nodup) (v : Int × Int), getV m q.1 = none → (m ++ [(q.1, v)]).Perm (putV m q.1 v) := fun m nd v hn => by
      have e9 : m.filter (fun p => decide (p.1 ≠ q.1)) = m := List.filter_eq_self.mpr fun p hp => decide_eq_true fun z => by
        have := getV_some hp
        rw [z, hn] at this
        cases this
      have := putV_perm nd q.1 v
      rw [e9] at this
      exact this
    split
    · exact (pm.append_right _).trans (app T nd _ e)
    · rename_i c
      have ne : T ≠ [] := fun z => by rw [z] at c; simp at c; omega
      obtain ⟨v, l, h1, h2, h3⟩ := goes_is nd ne
      rw [h3]
      simp only [List.headD_cons, h1, Option.getD_some]
      rw [← h2]
      have fe : dropE (asE T) (leastK T, v) = (asE T).filter (fun p => decide (p.1 ≠ leastK T)) := List.filter_congr fun p hp => by
        have iff : p = (leastK T, v) ↔ p.1 = leastK T := ⟨fun a => congrArg Prod.fst a, fun b => ndV (asE_nd nd) hp (pm.mem_iff.mpr (inV h1)) b⟩
        rw [decide_eq_decide.mpr iff, ← decide_not]
      rw [fe]
      refine ((pm.filter _).append_right _).trans (app _ (delV_nd nd _) _ ?_)
      refine getV_none fun z => ?_
      obtain ⟨p, hp, e3⟩ := List.mem_map.mp z
      have := getV_some (List.mem_filter.mp hp).1
      rw [e3, e] at this
      cases this
def ub (T : Tb) : List (Int × Int) := T.map fun p => (p.1, p.2.1)
theorem ub_keys (T : Tb) : keysI (ub T) = T.map (·.1) := by unfold keysI ub; rw [List.map_map]; rfl
theorem ub_get (T : Tb) (x : Int) : tv (ub T) x = ((getV T x).map (·.1)).getD 0 := by
  have : getI (ub T) x = (getV T x).map (·.1) := by
    unfold getI getV ub
    rw [List.find?_map, Option.map_map, Option.map_map]
    rfl
  unfold tv
  rw [this]
theorem getV_del {T : Tb} (g y : Int) : getV (delV T g) y = if y = g then none else getV T y := by
  unfold getV delV
  induction T with
  | nil => simp
  | cons p T ih =>
    by_cases c : p.1 = g
    · rw [List.filter_cons, if_neg (by simpa using c), ih]
      by_cases d : y = g
      · rw [if_pos d, if_pos d]
      · rw [if_neg d, if_neg d, List.find?_cons]
        simp [show ¬ p.1 = y by omega]
    · rw [List.filter_cons, if_pos (by simpa using c), List.find?_cons, List.find?_cons]
      by_cases d : p.1 = y
      · simp only [d, decide_true, Option.map_some]
        rw [if_neg (by omega)]
      · simp only [d, decide_false]
        exact ih
theorem putV_length {β : Type} (m : List (Int × β)) (k : Int) (v : β) : (putV m k v).length = if k ∈ m.map (·.1) then m.length else m.length + 1 := by
  have := congrArg List.length (putV_keys m k v)
  rw [List.length_map] at this
  rw [this]
  split <;> simp
theorem delV_length {T : Tb} (nd : (T.map (·.1)).Nodup) {g : Int} {v : Int × Int} (h : getV T g = some v) : (delV T g).length + 1 = T.length := by
  have a := filter_key nd g
  rw [h] at a
  have b : T.length = (T.filter fun p => decide (p.1 = g)).length + (T.filter fun p => !decide (p.1 = g)).length := by
    clear a nd h
    induction T with
    | nil => rfl
    | cons p T ih => by_cases c : p.1 = g <;> simp [c, ih] <;> omega
  rw [a] at b
  have c : (T.filter fun p => !decide (p.1 = g)) = delV T g := by
    unfold delV
    refine List.filter_congr fun p _ => ?_
    rw [← decide_not]
  rw [c] at b
  simp at b
  omega
theorem inv1_unit {k : Nat} (hk : 1 ≤ k) {T : Tb} {M : List (Int × Int)} (nd : (T.map (·.1)).Nodup) (h : Inv1 k (ub T) M) (x : Int) : Inv1 k (ub (stepT ((k : Int) + 1) T (x, 1))) (cM k M x) := by
  have hU := h.1
  have nd2 := stepT_nd ((k : Int) + 1) nd (x, 1)
  have len : ∀ T : Tb, (ub T).length = T.length := fun T => List.length_map _
  have posT : ∀ p ∈ T, 1 ≤ p.2.1 := fun p hp => hU.pos (p.1, p.2.1) (List.mem_map.mpr ⟨p, hp, rfl⟩)
  have lle := h.2.2.1
  rw [len] at lle
  have gd : ∀ T : Tb, (T.map (·.1)).Nodup → (∀ p ∈ T, 1 ≤ p.2.1) → Gd (ub T) := fun T h1 h2 => ⟨by rw [ub_keys]; exact h1, fun p hp => by
    obtain ⟨q, hq, rfl⟩ := List.mem_map.mp hp
    exact h2 q hq⟩
  have txn : getV T x = none → tv (ub T) x = 0 := fun e => by rw [ub_get, e]; rfl
  have kxn : getV T x = none → ¬ x ∈ T.map (·.1) := fun e z => by
    obtain ⟨p, hp, rfl⟩ := List.mem_map.mp z
    have := getV_some hp
    rw [e] at this; cases this
  unfold stepT at nd2 ⊢
  cases e : getV T x with
  | some v =>
    simp only [e] at nd2 ⊢
    have kx : x ∈ T.map (·.1) := List.mem_map.mpr ⟨_, inV e, rfl⟩
    have tx : tv (ub T) x = v.1 := by rw [ub_get, e]; rfl
    have vp := posT _ (inV e)
    simp only at vp
    refine inv1_step hk h x (gd _ nd2 fun p hp => ?_) (Or.inl ⟨fun z => by omega, ?_, fun y => ?_⟩)
    · rcases (mem_putV nd _ _ _).mp hp with rfl | ⟨a, _⟩
      · show 1 ≤ v.1 + 1; omega
      · exact posT p a
    · rw [len, len, putV_length, if_pos kx, if_neg (by rw [tx]; omega)]
    · rw [ub_get, getV_put, ub_get]
      by_cases c : y = x
      · rw [if_pos c, if_pos c, c, e]; rfl
      · rw [if_neg c, if_neg c]; try omega
  | none =>
    simp only [e] at nd2 ⊢
    by_cases c : (T.length : Int) < (k : Int) + 1
    · rw [if_pos c] at nd2 ⊢
      refine inv1_step hk h x (gd _ nd2 fun p hp => ?_) (Or.inl ⟨fun z => ?_, ?_, fun y => ?_⟩)
      · rcases (mem_putV nd _ _ _).mp hp with rfl | ⟨a, _⟩
        · show (1 : Int) ≤ 1; omega
        · exact posT p a
      · rw [len] at z; omega
      · rw [len, len, putV_length, if_neg (kxn e), if_pos (txn e)]
      · rw [ub_get, getV_put, ub_get]
        by_cases c : y = x
        · rw [if_pos c, if_pos c, c, e]; rfl
        · rw [if_neg c, if_neg c]; try omega
    · rw [if_neg c] at nd2 ⊢
      have ne : T ≠ [] := fun z => c (by rw [z]; show ((0 : Nat) : Int) < _; omega)
      obtain ⟨v, l, h1, h2, _⟩ := goes_is nd ne
      have lo : ∀ y w, getV T y = some w → v.1 ≤ w.1 := fun y w hw => by
        have hin : w.1 ∈ (asE T).map (·.2.1) := List.mem_map.mpr ⟨(y, w), (asE_perm nd).mem_iff.mpr (inV hw), rfl⟩
        have := (minL_mem (ns := (asE T).map (·.2.1)) (fun z => by rw [z] at hin; cases hin)).2 _ hin
        omega
      have vp := posT _ (inV h1)
      simp only at vp
      generalize leastK T = g at *
      have gx : x ≠ g := fun z => by rw [z, h1] at e; cases e
      simp only [h1, Option.getD_some] at nd2 ⊢
      have kx2 : ¬ x ∈ (delV T g).map (·.1) := fun z => by
        obtain ⟨p, hp, e9⟩ := List.mem_map.mp z
        exact kxn e (List.mem_map.mpr ⟨p, (List.mem_filter.mp hp).1, e9⟩)
      have dl := delV_length nd h1
      have tg : tv (ub T) g = v.1 := by rw [ub_get, h1]; rfl
      refine inv1_step hk h x (gd _ nd2 fun p hp => ?_) (Or.inr ⟨⟨txn e, ?_⟩, ?_, g, by omega, fun y hy => ?_, fun y => ?_⟩)
      · rcases (mem_putV (delV_nd nd _) _ _ _).mp hp with rfl | ⟨a, _⟩
        · show (1 : Int) ≤ v.1 + 1; omega
        · exact posT p (List.mem_filter.mp a).1
      · rw [len]; omega
      · rw [len, len, putV_length, if_neg kx2]; omega
      · rw [tg]
        rw [ub_get] at hy ⊢
        cases e3 : getV T y with
        | none => rw [e3] at hy; simp at hy
        | some w => exact lo y w e3
      · rw [ub_get, getV_put, getV_del, tg]
        by_cases c1 : y = x
        · rw [if_pos c1, if_pos c1]; rfl
        · rw [if_neg c1, if_neg c1]
          by_cases c2 : y = g
          · rw [if_pos c2, if_pos c2]; rfl
          · rw [if_neg c2, if_neg c2, ub_get]
theorem cS_unit (k : Nat) (s : List (Int × Int) × Int) (x : Int) : (cS (k : Int) s (x, 1)).1 = cM k s.1 x := by
  unfold cS cM
  simp only
  by_cases c : k < (putI s.1 x ((getI s.1 x).getD 0 + 1)).length
  · rw [if_pos c, if_pos (by omega)]
  · rw [if_neg c, if_neg (by omega)]
theorem inv1_all {k : Nat} (hk : 1 ≤ k) (ns : List Int) : Inv1 k (ub (sumT ((k : Int) + 1) (ns.map fun n => (n, (1 : Int))))) (cSum (k : Int) (ns.map fun n => (n, (1 : Int)))).1 := by
  have go : ∀ (ns : List Int) (T : Tb) (s : List (Int × Int) × Int), (T.map (·.1)).Nodup → Inv1 k (ub T) s.1 →
      Inv1 k (ub ((ns.map fun n => (n, (1 : Int))).foldl (stepT ((k : Int) + 1)) T)) ((ns.map fun n => (n, (1 : Int))).foldl (cS (k : Int)) s).1 := fun ns => by
    induction ns with
    | nil => intro T s _ h; exact h
    | cons x ns ih =>
      intro T s nd h
      rw [List.map_cons, List.foldl_cons, List.foldl_cons]
      refine ih _ _ (stepT_nd _ nd _) ?_
      rw [cS_unit]
      exact inv1_unit hk nd h x
  refine go ns [] ([], 0) (by simp) ⟨⟨by simp [ub, keysI], fun p hp => by cases hp⟩, ⟨by simp [keysI], fun p hp => by cases hp⟩, by simp [ub], 0, by omega, Or.inl ⟨by simp [ub], rfl⟩, fun x => by simp [tv, getI, ub]⟩
/-- the law's least -/
def leastE (k : Nat) (T : Tb) : Int := if T.length = k + 1 then minL ((asE T).map (·.2.1)) else 0
theorem as_one {k : Nat} {T : Tb} {M : List (Int × Int)} (nd : (T.map (·.1)).Nodup) (h : Inv1 k (ub T) M) :
    (((asE T).filter fun p => decide (leastE k T < p.2.1)).map fun p => p.2.1 - leastE k T).Perm (M.map (·.2)) := by
  obtain ⟨hU, hM, hl, m, hm, im, t⟩ := h
  have pm := asE_perm nd
  have len : (ub T).length = T.length := List.length_map _
  have em : leastE k T = m := by
    unfold leastE
    rcases im with ⟨a, rfl⟩ | ⟨a, ⟨x, hx, ex⟩, lo⟩
    · rw [if_neg (by omega)]
    · rw [if_pos (by omega)]
      have key : ∀ p ∈ T, tv (ub T) p.1 = p.2.1 := fun p hp => hU.get (p := (p.1, p.2.1)) (List.mem_map.mpr ⟨p, hp, rfl⟩)
      have hx2 := Gd.of hx
      obtain ⟨q, hq, eq⟩ := List.mem_map.mp hx2
      have i1 : q.2.1 ∈ (asE T).map (·.2.1) := List.mem_map.mpr ⟨q, pm.mem_iff.mpr hq, rfl⟩
      obtain ⟨a1, b1⟩ := minL_mem (ns := (asE T).map (·.2.1)) (fun z => by rw [z] at i1; cases i1)
      have h1 := b1 _ i1
      obtain ⟨r, hr, er⟩ := List.mem_map.mp a1
      have hr := pm.mem_iff.mp hr
      have h2 := lo r.1 (by rw [key r hr]; exact hU.pos (r.1, r.2.1) (List.mem_map.mpr ⟨r, hr, rfl⟩))
      rw [key r hr] at h2
      have h3 : q.2.1 = tv (ub T) x := congrArg Prod.snd eq
      omega
  rw [em]
  have pa := (perm_above hU hM hm t).map (·.2)
  refine List.Perm.trans ?_ pa.symm
  rw [List.map_map]
  have e1 : above m (ub T) = (T.filter fun p => decide (m < p.2.1)).map fun p => (p.1, p.2.1) := by
    unfold above ub
    rw [List.filter_map]; rfl
  rw [e1, List.map_map]
  exact (pm.filter _).map _
end
end Zk.Be
namespace Zk
noncomputable section
open PySem PySem.Spec PyProof.Rows L2
end
end Zk
namespace Zk.Bc
noncomputable section
open PySem PySem.Spec PyProof.Rows L2 Zk
end
end Zk.Bc
namespace Zk.Bc
noncomputable section
open PySem PySem.Spec PyProof.Rows L2 Zk
end
end Zk.Bc
namespace Zk.Bc
noncomputable section
open PySem PySem.Spec PyProof.Rows L2 Zk
theorem deqs_is : ∀ (P Q : List Int), deqs (P.map D.int) (Q.map D.int) = decide (P = Q)
  | [], [] => by simp
  | [], q :: Q => by simp
  | p :: P, [] => by simp
  | p :: P, q :: Q => by
    have := deqs_is P Q
    simp only [List.map_cons, deqs_cons, this, deq_int]
    rw [Bool.eq_iff_iff]
    simp
theorem dat_is (n : Nat) (P : List Int) : dat (n + 1) (.lst (P.map D.int)) = true := by simp [dat]
theorem dat_tI (n : Nat) (P : List Int) : dat (n + 1) (.tup (P.map D.int)) = true := by simp [dat]
theorem eq_is (P Q : List Int) : gEq [.lst (P.map D.int), .lst (Q.map D.int)] = some (.bl (decide (P = Q))) := by
  simp only [gEq, show dat 64 (.lst (P.map D.int)) = true from dat_is 63 P, show dat 64 (.lst (Q.map D.int)) = true from dat_is 63 Q, and_self, if_true, deq_lst, deqs_is]
def ins (x : Int) : List Int → List Int
  | [] => [x]
  | y :: l => if x ≤ y then x :: y :: l else y :: ins x l
def isrt : List Int → List Int
  | [] => []
  | x :: l => ins x (isrt l)
theorem ins_perm (x : Int) : ∀ l, (ins x l).Perm (x :: l)
  | [] => .refl _
  | y :: l => by
    unfold ins
    split
    · exact .refl _
    · exact ((ins_perm x l).cons y).trans (.swap x y l)
theorem isrt_perm : ∀ l, (isrt l).Perm l
  | [] => .refl _
  | x :: l => (ins_perm x _).trans ((isrt_perm l).cons x)
theorem ins_pair (x : Int) : ∀ l, l.Pairwise (· ≤ ·) → (ins x l).Pairwise (· ≤ ·)
  | [], _ => by simp [ins]
  | y :: l, h => by
    obtain ⟨h1, h2⟩ := List.pairwise_cons.mp h
    unfold ins
    split
    · rename_i c
      refine List.pairwise_cons.mpr ⟨fun z hz => ?_, h⟩
      rcases List.mem_cons.mp hz with rfl | hz
      · exact c
      · exact Int.le_trans c (h1 z hz)
    · rename_i c
      refine List.pairwise_cons.mpr ⟨fun z hz => ?_, ins_pair x l h2⟩
      rcases List.mem_cons.mp ((ins_perm x l).mem_iff.mp hz) with rfl | hz
      · omega
      · exact h1 z hz
theorem isrt_pair : ∀ l, (isrt l).Pairwise (· ≤ ·)
  | [] => .nil
  | x :: l => ins_pair x _ (isrt_pair l)
theorem srt_isrt (l : List Int) : srt l = isrt l := srt_uniq ((srt_perm l).trans (isrt_perm l).symm) (srt_pair l) (isrt_pair l)
end
end Zk.Bc
namespace Zk.Be
noncomputable section
open PySem PySem.Spec PyProof.Rows L2 Zk Zk.Bb Zk.Bc
theorem i0_eD3 (p : Int × Int × Int) : gIxd [eD3 p, .int 0] = some (.int p.1, 0) := by unfold eD3; rw [gIxd_tup, gIx_tup, atI_z]; rfl
theorem i1_eD3 (p : Int × Int × Int) : gIxd [eD3 p, .int 1] = some (.int p.2.1, 0) := by unfold eD3; rw [gIxd_tup, gIx_tup, atI_1]; rfl
theorem i2_eD3 (p : Int × Int × Int) : gIxd [eD3 p, .int 2] = some (.int p.2.2, 0) := by unfold eD3; rw [gIxd_tup, gIx_tup]; rfl
theorem row3_inj {p q : Int × Int × Int} : row3 p = row3 q ↔ p = q := by
  obtain ⟨a, b, c⟩ := p
  obtain ⟨x, y, z⟩ := q
  simp [row3]
theorem ne_eD3 (p q : Int × Int × Int) : gNe [eD3 p, eD3 q] = some (.bl (!decide (p = q))) := by
  have e : ∀ p, eD3 p = .tup ((row3 p).map D.int) := fun _ => rfl
  rw [e, e]
  simp only [gNe, show dat 64 (.tup ((row3 p).map D.int)) = true from dat_tI 63 _, show dat 64 (.tup ((row3 q).map D.int)) = true from dat_tI 63 _, and_self, if_true, deq_tup, deqs_is, decide_eq_decide.mpr row3_inj]
theorem appD (A : Tb) (x y z : Int) : A.map eD3 ++ [D.tup [.int x, .int y, .int z]] = (A ++ [(x, y, z)]).map eD3 := by rw [List.map_append]; rfl
theorem levD (A : Tb) : lev (A.map eD3) = 9 := by
  unfold lev
  rw [imms_map' (fun _ => rfl)]
  rfl
theorem sort_eD3 {T L : Tb} (nd : (T.map (·.1)).Nodup) (h : L.Perm T) : gSrtL [.lst (L.map eD3)] = some (.lst ((asE T).map eD3), 9) := by
  have e1 : ∀ L : Tb, L.map eD3 = (L.map row3).map tID := fun L => by rw [List.map_map]; rfl
  rw [e1, gSrtL_map, srtL_asE nd h, ← e1]
  unfold oneLen
  cases L with
  | nil => rfl
  | cons p L => simp [row3]
theorem ixd0 {x : D} {l : List D} : gIxd [.lst (x :: l), .int 0] = some (x, 0) := by rw [gIxd_lst, gIx_lst, atI_z]; rfl
theorem entries_W {st : List (Int × Int)} (hl : st.length ≤ 200) {k : Int} (hk : 1 ≤ k) : S_law_space_entries [.tup (st.map pr), .int k] = some (.tup ((asE (sumT k st)).map eD3), 9, .non) := by
  have go : W (S_law_space_entries [.tup (st.map pr), .int k]) fun r => r = (.tup ((asE (sumT k st)).map eD3), 9, .non) := by
    refine W_O fun Q' hQ => ?_
    unfold S_law_space_entries S_law_space_entriesb
    rw [W_mDef]
    have is := imms_map' imm_pr st
    (refine Zk.W_seqE (E1 := ?wE229) ?wa229 ?wb229; (case wa229 => (simp (disch := first | assumption | (simp; done) | omega) [ent0_def]; exact rfl)))
    have c0 : (asE (sumT k [])).map eD3 = [] := by
      show (asE ([] : Tb)).map eD3 = []
      simp [asE, srt]
    (refine Zk.W_forS ?wE303 st pr [3, 4, 5, 6, 7, 8] (fun (_ : Unit) a => [(2, some (.lst ((asE (sumT k a)).map eD3), 9))]) (fun _ _ => True) () ?wa303 ?wb303 ?_ ?_ ?_; (case wa303 => (simp (disch := first | assumption | (simp; done) | omega) [is, c0]; exact rfl)); (case wb303 => (simp (disch := first | assumption | (simp; done) | omega) [Zk.sets, is, c0])))
    · trivial
    · intro _ a p b I' e _ hI
      simp only [Zk.AllU, Zk.sets, List.set_cons_succ, List.set_cons_zero, List.set_nil] at *
      intro u3 u4 u5 u6 u7 u8
      refine W_tg2 (by simp) (by simp) ?_
      have hI := hI () trivial
      rw [sumT_app] at hI
      have tl := sumT_len k a
      have nd := sumT_nd k a
      have al : a.length ≤ 200 := by rw [e] at hl; simp at hl; omega
      generalize sumT k a = T at *
      have sp := stepE_perm hk nd p
      have so := sort_eD3 (stepT_nd k nd p) sp
      have gl := asE_perm nd
      have ll : (asE T).length ≤ 200 := by rw [gl.length_eq]; omega
      have ne : ¬ (asE T).length < k → (asE T).length ≠ 0 := fun h z => h (by omega)
      generalize asE T = L at *
      generalize asE (stepT k T p) = L' at *
      have iL : ∀ L : Tb, imms (L.map eD3) = true := fun L => imms_map' (fun _ => rfl) L
      have iL1 := iL L
      refine W_seqO (J := fun E => E = [some (.tup (st.map pr), 0), some (.int k, 0), some (.lst (L.map eD3), 0), some (.int p.1, 0), some (.int p.2, 0), some (.lst ((L.filter fun x => decide (x.1 = p.1)).map eD3), 9), u6, u7, u8]) ?_ ?_
      · intro J' hJ
        simp (disch := first | assumption | (simp; done) | omega) [W_lc0, iL1]
        refine W_lcX (xs := L) (ι := eD3) (fun x => decide (x.1 = p.1)) eD3 (fun _ => rfl) (by rw [sizeL]; omega) (fun x hx => ?_) fun acc ha hu => ?_
        · by_cases c : x.1 = p.1
          · simp (disch := first | assumption | (simp; done) | omega) [i0_eD3, c]
          · simp (disch := first | assumption | (simp; done) | omega) [i0_eD3, c]
        · simp (disch := first | assumption | (simp; done) | omega) [ha, hu, -List.map_map]
          exact hJ _ rfl
      rintro _ rfl
      refine W_seqO (J := fun E => ∃ a5 a6 a7 a8, E = [some (.tup (st.map pr), 0), some (.int k, 0), some (.lst ((stepE k L p).map eD3), 9), some (.int p.1, 0), some (.int p.2, 0), a5, a6, a7, a8]) ?_ ?_
      · intro J' hJ
        unfold stepE at hJ
        cases hf : L.filter fun x => decide (x.1 = p.1) with
        | cons r l =>
          rw [hf] at hJ
          simp only at hJ
          (refine Zk.W_ifT (E1 := ?wE230) ?wa230 ?wb230; (case wa230 => (simp (disch := first | assumption | (simp; done) | omega) []; exact rfl)))
          simp (disch := first | assumption | (simp; done) | omega) [W_lc0, iL1]
          refine W_lcX (xs := L) (ι := eD3) (fun x => decide (x.1 ≠ p.1)) eD3 (fun _ => rfl) (by rw [sizeL]; omega) (fun x hx => ?_) fun acc ha hu => ?_
          · by_cases c : x.1 = p.1
            · simp (disch := first | assumption | (simp; done) | omega) [i0_eD3, c]
            · simp (disch := first | assumption | (simp; done) | omega) [i0_eD3, c]
          · have fe : (L.filter fun x => !decide (x.1 = p.1)) = L.filter fun x => decide (x.1 ≠ p.1) := List.filter_congr fun x _ => by rw [decide_not]
            simp (disch := first | assumption | (simp; done) | omega) [ha, hu, ixd0, i1_eD3, i2_eD3, -List.map_map]
            rw [fe, appD, levD]
            exact ⟨by have := List.length_filter_le (fun x => decide (x.1 ≠ p.1)) L; rw [sizeL]; omega, hJ _ ⟨_, _, _, _, rfl⟩⟩
        | nil =>
          rw [hf] at hJ
          simp only at hJ
          (refine Zk.W_ifF (E1 := ?wE231) ?wa231 ?wb231; (case wa231 => (simp (disch := first | assumption | (simp; done) | omega) []; exact rfl)))
          by_cases c : (L.length : Int) < k
          · rw [if_pos c] at hJ
            (refine Zk.W_ifT (E1 := ?wE232) ?wa232 ?wb232; (case wa232 => (simp (disch := first | assumption | (simp; done) | omega) [c]; exact rfl)))
            simp (disch := first | assumption | (simp; done) | omega) []
            rw [appD, levD]
            exact hJ _ ⟨_, _, _, _, rfl⟩
          · rw [if_neg c] at hJ
            (refine Zk.W_ifF (E1 := ?wE233) ?wa233 ?wb233; (case wa233 => (simp (disch := first | assumption | (simp; done) | omega) [c]; exact rfl)))
            have lne : L ≠ [] := fun z => ne c (by rw [z]; rfl)
            have gm := gMin_list (ns := L.map (·.2.1)) (by simpa using lne)
            generalize hmn : minL (L.map (·.2.1)) = mn at *
            refine W_seqO (J := fun E => E = [some (.tup (st.map pr), 0), some (.int k, 0), some (.lst (L.map eD3), 0), some (.int p.1, 0), some (.int p.2, 0), some (.lst [], 9), u6, some (.int mn, 9), u8]) ?_ ?_
            · intro J2 hJ2
              simp (disch := first | assumption | (simp; done) | omega) [W_lc0, iL1]
              refine W_lcN (xs := L) (ι := eD3) (fun x => x.2.1) (by rw [sizeL]; omega) (fun x hx => ?_) fun acc ha hu => ?_
              · simp (disch := first | assumption | (simp; done) | omega) [i1_eD3]
              · simp (disch := first | assumption | (simp; done) | omega) [ha, hu, gm, -List.map_map]
                exact hJ2 _ rfl
            rintro _ rfl
            refine W_seqO (J := fun E => E = [some (.tup (st.map pr), 0), some (.int k, 0), some (.lst (L.map eD3), 0), some (.int p.1, 0), some (.int p.2, 0), some (.lst [], 9), u6, some (.int mn, 9), some (eD3 ((L.filter fun x => decide (x.2.1 = mn)).headD (0, 0, 0)), 9)]) ?_ ?_
            · intro J2 hJ2
              simp (disch := first | assumption | (simp; done) | omega) [W_lc0, iL1]
              refine W_lcX (xs := L) (ι := eD3) (fun x => decide (x.2.1 = mn)) eD3 (fun _ => rfl) (by rw [sizeL]; omega) (fun x hx => ?_) fun acc ha hu => ?_
              · by_cases c : x.2.1 = mn
                · simp (disch := first | assumption | (simp; done) | omega) [i1_eD3, c]
                · simp (disch := first | assumption | (simp; done) | omega) [i1_eD3, c]
              · have hne : (L.filter fun x => decide (x.2.1 = mn)) ≠ [] := fun z => by
                  obtain ⟨x, hx, e9⟩ := List.mem_map.mp ((minL_mem (ns := L.map (·.2.1)) (by simpa using lne)).1)
                  have : x ∈ L.filter fun x => decide (x.2.1 = mn) := List.mem_filter.mpr ⟨hx, decide_eq_true (by rw [e9, hmn])⟩
                  rw [z] at this
                  cases this
                cases hf2 : L.filter fun x => decide (x.2.1 = mn) with
                | nil => exact absurd hf2 hne
                | cons r l =>
                  rw [hf2] at ha hJ2
                  simp (disch := first | assumption | (simp; done) | omega) [ha, hu, ixd0, -List.map_map]
                  exact hJ2 _ rfl
            rintro _ rfl
            generalize (L.filter fun x => decide (x.2.1 = mn)).headD (0, 0, 0) = r at *
            simp (disch := first | assumption | (simp; done) | omega) [W_lc0, iL1]
            refine W_lcX (xs := L) (ι := eD3) (fun x => !decide (x = r)) eD3 (fun _ => rfl) (by rw [sizeL]; omega) (fun x hx => ?_) fun acc ha hu => ?_
            · by_cases c : x = r
              · subst c
                have n1 := ne_eD3 x x
                rw [decide_eq_true rfl] at n1
                simp (disch := first | assumption | (simp; done) | omega) [n1]
              · have n1 := ne_eD3 x r
                rw [decide_eq_false c] at n1
                simp (disch := first | assumption | (simp; done) | omega) [n1, c]
            · simp (disch := first | assumption | (simp; done) | omega) [ha, hu, -List.map_map]
              rw [appD, levD]
              exact ⟨by have := List.length_filter_le (fun x => !decide (x = r)) L; rw [sizeL]; omega, hJ _ ⟨_, _, _, _, rfl⟩⟩
      rintro _ ⟨a5, a6, a7, a8, rfl⟩
      simp (disch := first | assumption | (simp; done) | omega) [so, iL (stepE k L p)]
      apply hI
    intro _ _
    simp only [Zk.AllU, Zk.sets, List.set_cons_succ, List.set_cons_zero, List.set_nil] at *
    intro u3 u4 u5 u6 u7 u8
    have fl : imms ((asE (sumT k st)).map eD3) = true := imms_map' (fun _ => rfl) _
    simp (disch := first | assumption | (simp; done) | omega) [fl]
    exact hQ _ rfl
  obtain ⟨r, e, rfl⟩ := go
  exact e
end
end Zk.Be
namespace Zk.Be
noncomputable section
open PySem PySem.Spec PyProof.Rows L2 Zk Zk.Bb Zk.Bc
def bdE (L : Tb) (k x : Int) : Int × Int :=
  match L.filter (fun p => decide (p.1 = x)) with
  | r :: _ => (r.2.1 - r.2.2, r.2.1)
  | [] => if (L.length : Int) < k then (0, 0) else (0, minL (L.map (·.2.1)))
theorem law_bounds_W {L : Tb} (hl : L.length ≤ 1000) {k : Int} (hk : 1 ≤ k) (x : Int) : S_law_space_bounds [.tup (L.map eD3), .int k, .int x] = some (pr (bdE L k x), 0, .non) := by
  have go : W (S_law_space_bounds [.tup (L.map eD3), .int k, .int x]) fun r => r = (pr (bdE L k x), 0, .non) := by
    refine W_O fun Q' hQ => ?_
    unfold S_law_space_bounds S_law_space_boundsb
    rw [W_mDef, ent0_def]
    have iL : imms (L.map eD3) = true := imms_map' (fun _ => rfl) L
    refine W_seqO (J := fun E => E = [some (.tup (L.map eD3), 0), some (.int k, 0), some (.int x, 0), some (.lst ((L.filter fun p => decide (p.1 = x)).map eD3), 9), none]) ?_ ?_
    · intro J' hJ
      simp (disch := first | assumption | (simp; done) | omega) [W_lc0, iL]
      refine W_lcX (xs := L) (ι := eD3) (fun p => decide (p.1 = x)) eD3 (fun _ => rfl) (by rw [sizeL]; omega) (fun p hp => ?_) fun acc ha hu => ?_
      · by_cases c : p.1 = x
        · simp (disch := first | assumption | (simp; done) | omega) [i0_eD3, c]
        · simp (disch := first | assumption | (simp; done) | omega) [i0_eD3, c]
      · simp (disch := first | assumption | (simp; done) | omega) [ha, hu, -List.map_map]
        exact hJ _ rfl
    rintro _ rfl
    unfold bdE at hQ
    cases hf : L.filter fun p => decide (p.1 = x) with
    | cons r l =>
      rw [hf] at hQ
      simp only at hQ
      simp (disch := first | assumption | (simp; done) | omega) [ixd0, i1_eD3, i2_eD3]
      exact hQ _ rfl
    | nil =>
      rw [hf] at hQ
      simp only at hQ
      (refine Zk.W_seqE (E1 := ?wE234) ?wa234 ?wb234; (case wa234 => (simp (disch := first | assumption | (simp; done) | omega) []; exact rfl)))
      by_cases c : (L.length : Int) < k
      · rw [if_pos c] at hQ
        simp (disch := first | assumption | (simp; done) | omega) [c]
        exact hQ _ rfl
      · rw [if_neg c] at hQ
        (refine Zk.W_seqE (E1 := ?wE235) ?wa235 ?wb235; (case wa235 => (simp (disch := first | assumption | (simp; done) | omega) [c]; exact rfl)))
        have lne : L ≠ [] := fun z => c (by rw [z]; show ((0 : Nat) : Int) < _; omega)
        have gm := gMin_list (ns := L.map (·.2.1)) (by simpa using lne)
        simp (disch := first | assumption | (simp; done) | omega) [W_lc0, iL]
        refine W_lcN (xs := L) (ι := eD3) (fun x => x.2.1) (by rw [sizeL]; omega) (fun x hx => ?_) fun acc ha hu => ?_
        · simp (disch := first | assumption | (simp; done) | omega) [i1_eD3]
        · simp (disch := first | assumption | (simp; done) | omega) [ha, hu, gm, -List.map_map]
          exact hQ _ rfl
  obtain ⟨r, e, rfl⟩ := go
  exact e
theorem bounds_W {L : Tb} (hl : L.length ≤ 1000) {k : Int} (hk : 1 ≤ k) (x : Int) : S_space_bounds [.tup (L.map eD3), .int k, .int x] = some (pr (bdE L k x), 0, .non) := by
  have go : W (S_space_bounds [.tup (L.map eD3), .int k, .int x]) fun r => r = (pr (bdE L k x), 0, .non) := by
    refine W_O fun Q' hQ => ?_
    unfold S_space_bounds S_space_boundsb
    rw [W_mDef, ent0_def]
    have iL : imms (L.map eD3) = true := imms_map' (fun _ => rfl) L
    (refine Zk.W_forSx ?wE304 L eD3 [3, 4, 5] (fun (_ : Unit) _ => []) (fun _ a => ∀ q ∈ a, ¬ q.1 = x) () ?wa304 ?wb304 ?_ ?_ ?_; (case wa304 => (simp (disch := first | assumption | (simp; done) | omega) [iL]; exact rfl)); (case wb304 => (simp (disch := first | assumption | (simp; done) | omega) [Zk.sets, iL])))
    · simp
    · intro X hX1 hX2 _ a p b I' e hP hI
      simp only [Zk.AllU, Zk.sets, List.set_cons_succ, List.set_cons_zero, List.set_nil] at *
      intro u3 u4 u5
      have fl : L.filter (fun q => decide (q.1 = x)) = (p :: b).filter fun q => decide (q.1 = x) := by
        rw [e, List.filter_append, List.filter_eq_nil_iff.mpr fun q hq => by simpa using hP q hq, List.nil_append]
      unfold eD3
      simp (disch := first | assumption | (simp; done) | omega) [W_tgT, W_tgV]
      refine ⟨fun c => ?_, fun c => ?_⟩
      · refine hX2 _ _ _ ?_
        simp (disch := first | assumption | (simp; done) | omega) []
        refine hQ _ ?_
        unfold bdE
        rw [fl, List.filter_cons, if_pos (decide_eq_true c)]
        rfl
      · apply hI () fun q hq => ?_
        rcases List.mem_append.mp hq with hq | hq
        · exact hP q hq
        · rw [List.mem_singleton.mp hq]; exact c
    intro _ hP
    simp only [Zk.AllU, Zk.sets, List.set_cons_succ, List.set_cons_zero, List.set_nil] at *
    intro u3 u4 u5
    have hf : (L.filter fun p => decide (p.1 = x)) = [] := List.filter_eq_nil_iff.mpr fun q hq => by simpa using hP q hq
    unfold bdE at hQ
    rw [hf] at hQ
    simp only at hQ
    by_cases c : (L.length : Int) < k
    · rw [if_pos c] at hQ
      simp (disch := first | assumption | (simp; done) | omega) [c]
      exact hQ _ rfl
    · rw [if_neg c] at hQ
      (refine Zk.W_seqE (E1 := ?wE236) ?wa236 ?wb236; (case wa236 => (simp (disch := first | assumption | (simp; done) | omega) [c]; exact rfl)))
      have lne : L ≠ [] := fun z => c (by rw [z]; show ((0 : Nat) : Int) < _; omega)
      have gm := gMin_list (ns := L.map (·.2.1)) (by simpa using lne)
      simp (disch := first | assumption | (simp; done) | omega) [W_lc0, iL]
      refine W_lcN (xs := L) (ι := eD3) (fun x => x.2.1) (by rw [sizeL]; omega) (fun x hx => ?_) fun acc ha hu => ?_
      · unfold eD3
        simp (disch := first | assumption | (simp; done) | omega) [W_tgT, W_tgV]
      · simp (disch := first | assumption | (simp; done) | omega) [ha, hu, gm, -List.map_map]
        exact hQ _ rfl
  obtain ⟨r, e, rfl⟩ := go
  exact e
theorem asC_perm {M : List (Int × Int)} (nd : (keysI M).Nodup) : (asC M).Perm M := by
  have h := (srt_perm (keysI M)).map fun k => (k, (getI M k).getD 0)
  have e : (keysI M).map (fun k => (k, (getI M k).getD 0)) = M := by
    unfold keysI
    rw [List.map_map]
    refine (List.map_congr_left fun p hp => ?_).trans (List.map_id _)
    show (p.1, (getI M p.1).getD 0) = p
    rw [get_at nd hp]; rfl
  rw [e] at h
  exact h
theorem as_one_W {ns : List Int} (hl : ns.length ≤ 200) {k : Nat} (hk : 1 ≤ k) : S_law_as_one [.tup (ns.map D.int), .int (k : Int)] = some (.bl true, 9, .non) := by
  have go : W (S_law_as_one [.tup (ns.map D.int), .int (k : Int)]) fun r => r = (.bl true, 9, .non) := by
    refine W_O fun Q' hQ => ?_
    unfold S_law_as_one S_law_as_oneb
    rw [W_mDef, ent0_def]
    have ue := units_eq (ns := ns) (by omega)
    have inn := imms_map' (f := D.int) (fun _ => rfl) ns
    have inv := inv1_all hk ns
    have nd := sumT_nd ((k : Int) + 1) (ns.map fun n => (n, (1 : Int)))
    have sl := sumT_len ((k : Int) + 1) (ns.map fun n => (n, (1 : Int)))
    have sw := space_W (st := ns.map fun n => (n, (1 : Int))) (by simpa using hl) (k := (k : Int) + 1) (by omega)
    have cw := cancelled_W (st := ns.map fun n => (n, (1 : Int))) (by simpa using hl) (k : Int)
    have uw := summary_W (st := ns.map fun n => (n, (1 : Int))) (by simpa using hl) (k : Int)
    obtain ⟨inv1, inv2⟩ := cSum_inv (k : Int) (ns.map fun n => (n, (1 : Int)))
    have ll : (ns.map fun n => (n, (1 : Int))).length ≤ 200 := by simpa using hl
    generalize (ns.map fun n => (n, (1 : Int))) = st at *
    generalize sumT ((k : Int) + 1) st = T at *
    generalize cSum (k : Int) st = s at *
    obtain ⟨M, off⟩ := s
    simp only at inv inv1 inv2 cw uw
    have one := as_one nd inv
    have le := (asE_perm nd).length_eq
    have is := imms_map' imm_pr st
    have iT : imms ((asE T).map eD3) = true := imms_map' (fun _ => rfl) _
    (refine Zk.W_seqE (E1 := ?wE237) ?wa237 ?wb237; (case wa237 => (simp (disch := first | assumption | (simp; done) | omega) [ue, inn, dem1]; exact rfl)))
    (refine Zk.W_seqE (E1 := ?wE238) ?wa238 ?wb238; (case wa238 => (simp (disch := first | assumption | (simp; done) | omega) [sw, is, iT, dem1]; exact rfl)))
    (refine Zk.W_seqE (E1 := ?wE239) ?wa239 ?wb239; (case wa239 => (simp (disch := first | assumption | (simp; done) | omega) []; exact rfl)))
    have tl : T.length ≤ 200 := by omega
    have en : T.length = k + 1 → asE T ≠ [] := fun h z => by rw [z] at le; simp at le; omega
    unfold leastE at one
    generalize asE T = L at *
    have iL : imms (L.map eD3) = true := imms_map' (fun _ => rfl) L
    rw [← le] at one en tl
    refine W_seqO (J := fun E => ∃ a2 a3, E = [some (.tup (ns.map D.int), 0), some (.int (k : Int), 0), some (.tup (st.map pr), a2), some (.tup (L.map eD3), a3), some (.int (if L.length = k + 1 then minL (L.map (·.2.1)) else 0), 9), none, none, none, none]) ?_ ?_
    · intro J' hJ
      by_cases c : L.length = k + 1
      · rw [if_pos c] at hJ
        have c2 : (L.length : Int) = (k : Int) + 1 := by omega
        (refine Zk.W_ifT (E1 := ?wE240) ?wa240 ?wb240; (case wa240 => (simp (disch := first | assumption | (simp; done) | omega) [c2]; exact rfl)))
        have gm := gMin_list (ns := L.map (·.2.1)) (by simpa using en c)
        simp (disch := first | assumption | (simp; done) | omega) [W_lc0, iL]
        refine W_lcN (xs := L) (ι := eD3) (fun x => x.2.1) (by rw [sizeL]; omega) (fun x hx => ?_) fun acc ha hu => ?_
        · simp (disch := first | assumption | (simp; done) | omega) [i1_eD3]
        · simp (disch := first | assumption | (simp; done) | omega) [ha, hu, gm, -List.map_map]
          exact hJ _ ⟨_, _, rfl⟩
      · rw [if_neg c] at hJ
        have c2 : ¬ (L.length : Int) = (k : Int) + 1 := by omega
        (refine Zk.W_ifF (E1 := ?wE241) ?wa241 ?wb241; (case wa241 => (simp (disch := first | assumption | (simp; done) | omega) [c2]; exact rfl)))
        simp (disch := first | assumption | (simp; done) | omega) []
        exact hJ _ ⟨_, _, rfl⟩
    rintro _ ⟨a2, a3, rfl⟩
    generalize (if L.length = k + 1 then minL (L.map (·.2.1)) else 0) = m at *
    have sm : srt ((L.filter fun p => decide (m < p.2.1)).map fun p => p.2.1 - m) = srt ((asC M).map (·.2)) := srt_perm_eq (one.trans ((asC_perm inv1).map _).symm)
    have cl : (asC M).length ≤ 200 := by rw [(asC_perm inv1).length_eq]; omega
    generalize asC M = C at *
    have iC := imms_map' imm_pr C
    refine W_seqO (J := fun E => ∃ a2 a3, E = [some (.tup (ns.map D.int), 0), some (.int (k : Int), 0), some (.tup (st.map pr), a2), some (.tup (L.map eD3), a3), some (.int m, 9), none, some (.lst ((srt (C.map (·.2))).map D.int), 9), none, none]) ?_ ?_
    · intro J' hJ
      simp (disch := first | assumption | (simp; done) | omega) [W_lc0, iL]
      refine W_lcNF (xs := L) (ι := eD3) (fun p => decide (m < p.2.1)) (fun p => p.2.1 - m) (by rw [sizeL]; omega) (fun x hx => ?_) fun acc ha hu => ?_
      · by_cases c : m < x.2.1
        · simp (disch := first | assumption | (simp; done) | omega) [i1_eD3, c]
        · simp (disch := first | assumption | (simp; done) | omega) [i1_eD3, c]
      · simp (disch := first | assumption | (simp; done) | omega) [ha, hu, sm, -List.map_map]
        exact hJ _ ⟨_, _, rfl⟩
    rintro _ ⟨a2, a3, rfl⟩
    refine W_seqO (J := fun E => ∃ a2 a3, E = [some (.tup (ns.map D.int), 0), some (.int (k : Int), 0), some (.tup (st.map pr), a2), some (.tup (L.map eD3), a3), some (.int m, 9), none, some (.lst ((srt (C.map (·.2))).map D.int), 9), some (.lst ((srt (C.map (·.2))).map D.int), 9), none]) ?_ ?_
    · intro J' hJ
      simp (disch := first | assumption | (simp; done) | omega) [W_lc0, cw, is, iC, sumD, dem1]
      refine W_lcN (xs := C) (ι := pr) (fun x => x.2) (by rw [sizeL]; omega) (fun x hx => ?_) fun acc ha hu => ?_
      · simp (disch := first | assumption | (simp; done) | omega) [i1_pr]
      · simp (disch := first | assumption | (simp; done) | omega) [ha, hu, -List.map_map]
        exact hJ _ ⟨_, _, rfl⟩
    rintro _ ⟨a2, a3, rfl⟩
    have eqs := eq_is (srt (C.map (·.2))) (srt (C.map (·.2)))
    rw [decide_eq_true rfl] at eqs
    simp (disch := first | assumption | (simp; done) | omega) [eqs]
    simp (disch := first | assumption | (simp; done) | omega) [W_lc0, uw, is, iC, sumD, dem1]
    refine W_lcN (xs := C) (ι := pr) (fun x => x.2) (by rw [sizeL]; omega) (fun x hx => ?_) fun acc ha hu => ?_
    · simp (disch := first | assumption | (simp; done) | omega) [i1_pr]
    · simp (disch := first | assumption | (simp; done) | omega) [ha, hu, eqs, -List.map_map]
      exact hQ _ rfl
  obtain ⟨r, e, rfl⟩ := go
  exact e
end
end Zk.Be
namespace K06
noncomputable section
open PySem PySem.Spec PyProof.Rows L2 Zk
def topS (i : Nat) : Stmt := PySem.Challenge.pw_sketchkeep_k06_space_summaries.main.body.getD i (.Pass ⟨0, 0, 0, 0⟩)
abbrev s_as_counts : Stmt := topS 1
abbrev n_as_counts : List Str := ["table", "key"]
theorem sc_as_counts : FnScope ["table", "key"] ["table"] (defScope s_as_counts) := ⟨rfl, rfl, rfl, by decide +kernel, rfl, by decide +kernel, by decide +kernel⟩
abbrev m_as_counts := S_as_counts
theorem ok_as_counts {P : Program} {w : World} {K : PySem.W.Frag} {mg : Str → Option Value} {base : Heap} {f : Addr} {fd : FuncData} (z_sorted : mg "sorted" = none) (z_tuple : mg "tuple" = none) (F : Fun K "as_counts" "as_counts" s_as_counts f fd) : FnOk P w K mg base CX0 1 f fd ["table"] (spM K none 1 m_as_counts) :=
  F.zk (wr := []) sc_as_counts none (by decide) (fun i h => by cases h) fun cdv A outer s H E hr =>
    (ass_one (as_ret (ae_bty call_tuple_of al_tuple (by rfl) z_tuple boot_tuple (aa_cons (ae_lc [("key", 1)] sc_as_counts.nd (blkOk_by (N := n_as_counts) (sc := defScope s_as_counts) (by decide +kernel)) (ai_seq (ae_srt (by rfl) z_sorted (ae_var 0))) (fun _ _ _ _ _ => (ag_n 1 sc_as_counts.nd)) (fun _ _ _ _ _ => ats_nil) (fun _ _ _ _ _ => (ae_tup (aa_cons (ae_var 1) (aa_cons (ae_ixd hr.u1 (ae_var 0) (ae_var 1)) aa_nil)))) gl_v) aa_nil))))
abbrev s_lowered : Stmt := topS 2
abbrev n_lowered : List Str := ["table", "amount", "key", "count"]
theorem sc_lowered : FnScope ["table", "amount", "key", "count"] ["table", "amount"] (defScope s_lowered) := ⟨rfl, rfl, rfl, by decide +kernel, rfl, by decide +kernel, by decide +kernel⟩
abbrev m_lowered := S_lowered
theorem ok_lowered {P : Program} {w : World} {K : PySem.W.Frag} {mg : Str → Option Value} {base : Heap} {f : Addr} {fd : FuncData} (F : Fun K "lowered" "lowered" s_lowered f fd) : FnOk P w K mg base CX0 1 f fd ["table", "amount"] (spM K none 2 m_lowered) :=
  F.zk (wr := []) sc_lowered none (by decide) (fun i h => by cases h) fun cdv A outer s H E hr =>
    (ass_one (as_ret (ae_dcF 0 wlkItems [("key", 2), ("count", 3)] hr.u1 sc_lowered.nd (blkOk_by (N := n_lowered) (sc := defScope s_lowered) (by decide +kernel)) (pi_iN 0) (fun _ _ _ _ _ => (ag_t (ags_cons (ag_n 2 sc_lowered.nd) (ags_cons (ag_n 3 sc_lowered.nd) ags_nil)))) (fun _ _ _ _ _ => (ats_one (at_cmp (ac_gt (ae_var 3) (ae_var 1))))) (fun _ _ _ _ _ => (ae_var 2)) (fun _ _ _ _ _ => (ae_sub (ae_var 3) (ae_var 1))) (gl_t (gl_c gl_v (gl_c gl_v gl_n))))))
abbrev s_counter_summary : Stmt := topS 3
theorem sc_counter_summary : FnScope ["stream", "k", "table", "off", "key", "count", "least"] ["stream", "k"] (defScope s_counter_summary) := ⟨rfl, rfl, rfl, by decide +kernel, rfl, by decide +kernel, by decide +kernel⟩
abbrev m_counter_summary := S_counter_summary
theorem ok_counter_summary {P : Program} {w : World} {K : PySem.W.Frag} {mg : Str → Option Value} {base : Heap} {f : Addr} {fd : FuncData} (z_len : mg "len" = none) (z_list : mg "list" = none) (z_min : mg "min" = none) (o_lowered : Ok P w K mg base 1 "lowered" ["table", "amount"] none 2 S_lowered) (o_as_counts : Ok P w K mg base 1 "as_counts" ["table"] none 1 S_as_counts) (F : Fun K "counter_summary" "counter_summary" s_counter_summary f fd) : FnOk P w K mg base CX0 2 f fd ["stream", "k"] (spM K none 2 m_counter_summary) :=
  F.zk (wr := ([2] ++ ([3] ++ ((([4] ++ ([5] ++ [])) ++ ([] ++ (([6] ++ ([2] ++ [3])) ++ []))) ++ [])))) sc_counter_summary none (by decide) (fun i h => by cases h) fun cdv A outer s H E hr =>
    (ass_cons (as_set 2 ae_dicK sc_counter_summary.nd) (ass_cons (as_set 3 ae_int sc_counter_summary.nd) (ass_cons (as_for PassesOwn.never (ai_seq (ae_var 0)) (ag_t (ags_cons (ag_n 4 sc_counter_summary.nd) (ags_cons (ag_n 5 sc_counter_summary.nd) ags_nil))) (ass_cons (as_put 2 hr.u1 (ae_var 4) (ae_add (ae_get2 hr.u1 (ae_var 2) (ae_var 4) ae_int ⟨rfl, rfl, rfl, rfl⟩) (ae_var 5))) (ass_one (as_if (at_cmp (ac_gt (ae_blt cr_lenD al_lenD (by rfl) z_len boot_len (aa_cons (ae_var 2) aa_nil)) (ae_var 1))) (ass_cons (as_set 6 (ae_blt call_minA al_min (by rfl) z_min boot_min (aa_cons (ae_vals (ae_var 2) (by rfl) z_list) aa_nil)) sc_counter_summary.nd) (ass_cons (as_set 2 (ae_fn o_lowered hr (by rfl) (aa_cons (ae_var 2) (aa_cons (ae_var 6) aa_nil)) (npc (npc np0))) sc_counter_summary.nd) (ass_one (as_set 3 (ae_add (ae_var 3) (ae_var 6)) sc_counter_summary.nd)))) ass_nil)))) (ass_one (as_ret (ae_tup (aa_cons (ae_fn o_as_counts hr (by rfl) (aa_cons (ae_var 2) aa_nil) (npc np0)) (aa_cons (ae_var 3) aa_nil))))))))
abbrev s_least_entry : Stmt := topS 4
abbrev n_least_entry : List Str := ["table", "key", "count", "_"]
theorem sc_least_entry : FnScope ["table", "key", "count", "_"] ["table"] (defScope s_least_entry) := ⟨rfl, rfl, rfl, by decide +kernel, rfl, by decide +kernel, by decide +kernel⟩
abbrev m_least_entry := S_least_entry
theorem ok_least_entry {P : Program} {w : World} {K : PySem.W.Frag} {mg : Str → Option Value} {base : Heap} {f : Addr} {fd : FuncData} (z_min : mg "min" = none) (F : Fun K "least_entry" "least_entry" s_least_entry f fd) : FnOk P w K mg base CX0 1 f fd ["table"] (spM K none 1 m_least_entry) :=
  F.zk (wr := []) sc_least_entry none (by decide) (fun i h => by cases h) fun cdv A outer s H E hr =>
    (ass_one (as_ret (ae_ixd hr.u1 (ae_blt (cr_minP (by rfl) hr.u64) al_minP (by rfl) z_min boot_min (aa_cons (ae_lcF 0 wlkItems [("key", 1), ("count", 2), ("_", 3)] sc_least_entry.nd (blkOk_by (N := n_least_entry) (sc := defScope s_least_entry) (by decide +kernel)) (pi_iN 0) (fun _ _ _ _ _ => (ag_t (ags_cons (ag_n 1 sc_least_entry.nd) (ags_cons (ag_t (ags_cons (ag_n 2 sc_least_entry.nd) (ags_cons (ag_n 3 sc_least_entry.nd) ags_nil))) ags_nil)))) (fun _ _ _ _ _ => ats_nil) (fun _ _ _ _ _ => (ae_tup (aa_cons (ae_var 2) (aa_cons (ae_var 1) aa_nil)))) (gl_t (gl_c gl_v (gl_c (gl_t (gl_c gl_v (gl_c gl_v gl_n))) gl_n)))) aa_nil)) ae_int)))
abbrev s_space_summary : Stmt := topS 5
abbrev n_space_summary : List Str := ["stream", "k", "table", "key", "count", "told", "error", "gone", "least"]
theorem sc_space_summary : FnScope ["stream", "k", "table", "key", "count", "told", "error", "gone", "least"] ["stream", "k"] (defScope s_space_summary) := ⟨rfl, rfl, rfl, by decide +kernel, rfl, by decide +kernel, by decide +kernel⟩
abbrev m_space_summary := S_space_summary
theorem ok_space_summary {P : Program} {w : World} {K : PySem.W.Frag} {mg : Str → Option Value} {base : Heap} {f : Addr} {fd : FuncData} (z_len : mg "len" = none) (z_sorted : mg "sorted" = none) (z_tuple : mg "tuple" = none) (o_least_entry : Ok P w K mg base 1 "least_entry" ["table"] none 1 S_least_entry) (F : Fun K "space_summary" "space_summary" s_space_summary f fd) : FnOk P w K mg base CX0 2 f fd ["stream", "k"] (spM K none 2 m_space_summary) :=
  F.zk (wr := ([2] ++ ((([3] ++ ([4] ++ [])) ++ ((([5] ++ ([6] ++ [])) ++ []) ++ ([] ++ ([7] ++ ([8] ++ ([] ++ [])))))) ++ []))) sc_space_summary none (by decide) (fun i h => by cases h) fun cdv A outer s H E hr =>
    (ass_cons (as_set 2 ae_dicK sc_space_summary.nd) (ass_cons (as_for PassesOwn.never (ai_seq (ae_var 0)) (ag_t (ags_cons (ag_n 3 sc_space_summary.nd) (ags_cons (ag_n 4 sc_space_summary.nd) ags_nil))) (ass_one (as_if (at_cmp (ac_in hr.u65 (ae_var 3) (ae_var 2))) (ass_cons (as_asg (ae_ixd hr.u1 (ae_var 2) (ae_var 3)) (ag_t (ags_cons (ag_n 5 sc_space_summary.nd) (ags_cons (ag_n 6 sc_space_summary.nd) ags_nil)))) (ass_one (as_put 2 hr.u1 (ae_var 3) (ae_tup (aa_cons (ae_add (ae_var 5) (ae_var 4)) (aa_cons (ae_var 6) aa_nil)))))) (ass_one (as_if (at_cmp (ac_lt (ae_blt cr_lenD al_lenD (by rfl) z_len boot_len (aa_cons (ae_var 2) aa_nil)) (ae_var 1))) (ass_one (as_put 2 hr.u1 (ae_var 3) (ae_tup (aa_cons (ae_var 4) (aa_cons ae_int aa_nil))))) (ass_cons (as_set 7 (ae_fn o_least_entry hr (by rfl) (aa_cons (ae_var 2) aa_nil) (npc np0)) sc_space_summary.nd) (ass_cons (as_set 8 (ae_ixd hr.u1 (ae_ixd hr.u1 (ae_var 2) (ae_var 7)) ae_int) sc_space_summary.nd) (ass_cons (as_del 2 (ae_var 7)) (ass_one (as_put 2 hr.u1 (ae_var 3) (ae_tup (aa_cons (ae_add (ae_var 8) (ae_var 4)) (aa_cons (ae_var 8) aa_nil))))))))))))) (ass_one (as_ret (ae_bty call_tuple_of al_tuple (by rfl) z_tuple boot_tuple (aa_cons (ae_lc [("key", 3)] sc_space_summary.nd (blkOk_by (N := n_space_summary) (sc := defScope s_space_summary) (by decide +kernel)) (ai_seq (ae_srt (by rfl) z_sorted (ae_var 2))) (fun _ _ _ _ _ => (ag_n 3 sc_space_summary.nd)) (fun _ _ _ _ _ => ats_nil) (fun _ _ _ _ _ => (ae_tup (aa_cons (ae_var 3) (aa_cons (ae_ixd hr.u1 (ae_ixd hr.u1 (ae_var 2) (ae_var 3)) ae_int) (aa_cons (ae_ixd hr.u1 (ae_ixd hr.u1 (ae_var 2) (ae_var 3)) ae_int) aa_nil))))) gl_v) aa_nil))))))
abbrev s_space_bounds : Stmt := topS 6
abbrev n_space_bounds : List Str := ["entries", "k", "key", "other", "count", "error", "_"]
theorem sc_space_bounds : FnScope ["entries", "k", "key", "other", "count", "error", "_"] ["entries", "k", "key"] (defScope s_space_bounds) := ⟨rfl, rfl, rfl, by decide +kernel, rfl, by decide +kernel, by decide +kernel⟩
abbrev m_space_bounds := S_space_bounds
theorem ok_space_bounds {P : Program} {w : World} {K : PySem.W.Frag} {mg : Str → Option Value} {base : Heap} {f : Addr} {fd : FuncData} (z_len : mg "len" = none) (z_min : mg "min" = none) (F : Fun K "space_bounds" "space_bounds" s_space_bounds f fd) : FnOk P w K mg base CX0 1 f fd ["entries", "k", "key"] (spM K none 3 m_space_bounds) :=
  F.zk (wr := ((([3] ++ ([4] ++ ([5] ++ []))) ++ ([] ++ [])) ++ (([] ++ []) ++ []))) sc_space_bounds none (by decide) (fun i h => by cases h) fun cdv A outer s H E hr =>
    (ass_cons (as_for PassesOwn.never (ai_seq (ae_var 0)) (ag_t (ags_cons (ag_n 3 sc_space_bounds.nd) (ags_cons (ag_n 4 sc_space_bounds.nd) (ags_cons (ag_n 5 sc_space_bounds.nd) ags_nil)))) (ass_one (as_if (at_cmp (ac_eq hr.u64 (ae_var 3) (ae_var 2))) (ass_one (as_ret (ae_tup (aa_cons (ae_sub (ae_var 4) (ae_var 5)) (aa_cons (ae_var 4) aa_nil))))) ass_nil))) (ass_cons (as_if (at_cmp (ac_lt (ae_blt call_len al_len (by rfl) z_len boot_len (aa_cons (ae_var 0) aa_nil)) (ae_var 1))) (ass_one (as_ret (ae_tup (aa_cons ae_int (aa_cons ae_int aa_nil))))) ass_nil) (ass_one (as_ret (ae_tup (aa_cons ae_int (aa_cons (ae_blt call_minA al_min (by rfl) z_min boot_min (aa_cons (ae_lc [("_", 6), ("count", 4), ("_", 6)] sc_space_bounds.nd (blkOk_by (N := n_space_bounds) (sc := defScope s_space_bounds) (by decide +kernel)) (ai_seq (ae_var 0)) (fun _ _ _ _ _ => (ag_t (ags_cons (ag_n 6 sc_space_bounds.nd) (ags_cons (ag_n 4 sc_space_bounds.nd) (ags_cons (ag_n 6 sc_space_bounds.nd) ags_nil))))) (fun _ _ _ _ _ => ats_nil) (fun _ _ _ _ _ => (ae_var 4)) (gl_t (gl_c gl_v (gl_c gl_v (gl_c gl_v gl_n))))) aa_nil)) aa_nil)))))))
abbrev s__law_draws : Stmt := topS 8
abbrev n__law_draws : List Str := ["script", "many", "cells", "cell", "left", "draws", "k", "place", "mixed"]
theorem sc__law_draws : FnScope ["script", "many", "cells", "cell", "left", "draws", "k", "place", "mixed"] ["script", "many"] (defScope s__law_draws) := ⟨rfl, rfl, rfl, by decide +kernel, rfl, by decide +kernel, by decide +kernel⟩
abbrev m__law_draws := S_law_draws
theorem ok__law_draws {P : Program} {w : World} {K : PySem.W.Frag} {mg : Str → Option Value} {base : Heap} {f : Addr} {fd : FuncData} (z_int : mg "int" = none) (z_len : mg "len" = none) (z_list : mg "list" = none) (z_range : mg "range" = none) (F : Fun K "_law_draws" "_law_draws" s__law_draws f fd) : FnOk P w K mg base CX0 1 f fd ["script", "many"] (spM K none 2 m__law_draws) :=
  F.zk (wr := ([2] ++ (([] ++ []) ++ ([4] ++ ([5] ++ (([6] ++ ([7] ++ (([] ++ []) ++ ([8] ++ [])))) ++ ([] ++ []))))))) sc__law_draws none (by decide) (fun i h => by cases h) fun cdv A outer s H E hr =>
    (ass_cons (as_setLc 2 [("cell", 3)] sc__law_draws.nd (blkOk_by (N := n__law_draws) (sc := defScope s__law_draws) (by decide +kernel)) (ai_seq (ae_sl (ae_var 0) ao_none (ao_some ae_int))) (fun _ _ _ _ _ => (ag_n 3 sc__law_draws.nd)) (fun _ _ _ _ _ => ats_nil) (fun _ _ _ _ _ => (ae_mod (ae_bty call_int1 al_int (by rfl) z_int boot_int (aa_cons (ae_var 3) aa_nil)) (ae_shl ae_int ae_int))) gl_v (by decide +kernel)) (ass_cons (as_if (at_cmp (ac_eq hr.u64 (ae_blt call_len al_len (by rfl) z_len boot_len (aa_cons (ae_var 2) aa_nil)) ae_int)) (ass_one (as_ex (ae_app 2 ae_int))) ass_nil) (ass_cons (as_set 4 (ae_bty call_list_of al_list (by rfl) z_list boot_list (aa_cons (ae_var 2) aa_nil)) sc__law_draws.nd) (ass_cons (as_set 5 (ae_lst aa_nil) sc__law_draws.nd) (ass_cons (as_for PassesOwn.never (ai_rg1 (ae_var 1) (by rfl) z_range) (ag_n 6 sc__law_draws.nd) (ass_cons (as_set 7 (ae_mod (ae_bty call_int1 al_int (by rfl) z_int boot_int (aa_cons (ae_var 6) aa_nil)) (ae_blt call_len al_len (by rfl) z_len boot_len (aa_cons (ae_var 2) aa_nil))) sc__law_draws.nd) (ass_one (as_if (at_w (aw_and (at_cmp (ac_ge (ae_ixd hr.u1 (ae_var 2) (ae_var 7)) (ae_pow ae_int ae_int))) (aw_and1 (at_cmp (ac_gt (ae_ixd hr.u1 (ae_var 4) (ae_var 7)) ae_int))))) (ass_cons (as_ex (ae_app 5 (ae_mod (ae_bty call_int1 al_int (by rfl) z_int boot_int (aa_cons (ae_ixd hr.u1 (ae_var 4) (ae_var 7)) aa_nil)) ae_int))) (ass_one (as_put 4 hr.u1 (ae_var 7) (ae_div (ae_ixd hr.u1 (ae_var 4) (ae_var 7)) ae_int)))) (ass_cons (as_set 8 (ae_mod (ae_bty call_int1 al_int (by rfl) z_int boot_int (aa_cons (ae_add (ae_add (ae_mul (ae_ixd hr.u1 (ae_var 2) (ae_var 7)) ae_int) (ae_mul (ae_var 6) ae_int)) ae_int) aa_nil)) ae_int) sc__law_draws.nd) (ass_one (as_ex (ae_app 5 (ae_mod (ae_bty call_int1 al_int (by rfl) z_int boot_int (aa_cons (ae_add (ae_add (ae_mul (ae_var 8) (ae_var 8)) (ae_mul ae_int (ae_var 8))) (ae_var 6)) aa_nil)) ae_int))))))))) (ass_cons (as_ex (ae_rev 5)) (ass_one (as_ret (ae_var 5)))))))))
abbrev s__law_take : Stmt := topS 9
theorem sc__law_take : FnScope ["draws", "many"] ["draws", "many"] (defScope s__law_take) := ⟨rfl, rfl, rfl, by decide +kernel, rfl, by decide +kernel, by decide +kernel⟩
abbrev m__law_take := S_law_take
theorem ok__law_take {P : Program} {w : World} {K : PySem.W.Frag} {mg : Str → Option Value} {base : Heap} {f : Addr} {fd : FuncData} (z_len : mg "len" = none) (z_int : mg "int" = none) (F : Fun K "_law_take" "_law_take" s__law_take f fd) : FnOk P w K mg base CX0 1 f fd ["draws", "many"] (spM K (some 0) 2 m__law_take) :=
  F.zk (wr := (([] ++ []) ++ [])) sc__law_take (some 0) (by decide) (fun i h => by cases h; decide) fun cdv A outer s H E hr =>
    (ass_cons (as_if (at_cmp (ac_eq hr.u64 (ae_blt call_len al_len (by rfl) z_len boot_len (aa_cons (ae_var 0) aa_nil)) ae_int)) (ass_one (as_ret ae_int)) ass_nil) (ass_one (as_ret (ae_mod (ae_bty call_int1 al_int (by rfl) z_int boot_int (aa_cons (ae_pop 0) aa_nil)) (ae_var 1)))))
abbrev s__law_pick : Stmt := topS 10
theorem sc__law_pick : FnScope ["draws", "row"] ["draws", "row"] (defScope s__law_pick) := ⟨rfl, rfl, rfl, by decide +kernel, rfl, by decide +kernel, by decide +kernel⟩
abbrev m__law_pick := S_law_pick
theorem ok__law_pick {P : Program} {w : World} {K : PySem.W.Frag} {mg : Str → Option Value} {base : Heap} {f : Addr} {fd : FuncData} (z_len : mg "len" = none) (o__law_take : Ok P w K mg base 1 "_law_take" ["draws", "many"] (some 0) 2 S_law_take) (F : Fun K "_law_pick" "_law_pick" s__law_pick f fd) : FnOk P w K mg base CX0 2 f fd ["draws", "row"] (spM K (some 0) 2 m__law_pick) :=
  F.zk (wr := []) sc__law_pick (some 0) (by decide) (fun i h => by cases h; decide) fun cdv A outer s H E hr =>
    (ass_one (as_ret (ae_ixd hr.u1 (ae_var 1) (ae_fn o__law_take hr (by rfl) (aa_cons (ae_var 0) (aa_cons (ae_blt call_len al_len (by rfl) z_len boot_len (aa_cons (ae_var 1) aa_nil)) aa_nil)) (npc (npc np0))))))
abbrev s__law_same : Stmt := topS 11
abbrev n__law_same : List Str := ["actual", "due", "k"]
theorem sc__law_same : FnScope ["actual", "due", "k"] ["actual", "due"] (defScope s__law_same) := ⟨rfl, rfl, rfl, by decide +kernel, rfl, by decide +kernel, by decide +kernel⟩
abbrev m__law_same := S_law_same
theorem ok__law_same {P : Program} {w : World} {K : PySem.W.Frag} {mg : Str → Option Value} {base : Heap} {f : Addr} {fd : FuncData} (z_list : mg "list" = none) (z_tuple : mg "tuple" = none) (z_isinstance : mg "isinstance" = none) (z_len : mg "len" = none) (z_range : mg "range" = none) (z_bool : mg "bool" = none) (z_int : mg "int" = none) (z_str : mg "str" = none) (F : Fun K "_law_same" "_law_same" s__law_same f fd) (hm : mg "_law_same" = some (.ref f)) (hb : Binds K fd ["actual", "due"] []) : ∀ n : Nat, FnOk P w K mg base CX0 (0 + n) f fd ["actual", "due"] (spM K none 2 (m__law_same n))
  | 0 => fn_none fun ds => rfl
  | n + 1 =>
    have o__law_same : Ok P w K mg base (0 + n) "_law_same" ["actual", "due"] none 2 (m__law_same n) := ⟨f, fd, ok__law_same z_list z_tuple z_isinstance z_len z_range z_bool z_int z_str F hm hb n, hm, F.kp, hb⟩
    F.zk (wr := (((([] ++ []) ++ (([] ++ []) ++ [])) ++ []) ++ (([] ++ []) ++ (([] ++ []) ++ [])))) sc__law_same none (by decide) (fun i h => by cases h) fun cdv A outer s H E hr =>
      (ass_cons (as_if (at_tru (ae_blt call_isiA al_isi (by rfl) z_isinstance boot_isinstance (aa_cons (ae_var 1) (aa_cons (ae_tup (aa_cons (ae_typ (by rfl) z_tuple boot_tuple) (aa_cons (ae_typ (by rfl) z_list boot_list) aa_nil))) aa_nil)))) (ass_cons (as_if (at_w (aw_or (at_cmp (ac_ne hr.u64 (ae_blt call_isiA al_isi (by rfl) z_isinstance boot_isinstance (aa_cons (ae_var 0) (aa_cons (ae_typ (by rfl) z_tuple boot_tuple) aa_nil))) (ae_blt call_isiA al_isi (by rfl) z_isinstance boot_isinstance (aa_cons (ae_var 1) (aa_cons (ae_typ (by rfl) z_tuple boot_tuple) aa_nil))))) (aw_or1 (at_cmp (ac_ne hr.u64 (ae_blt call_isiA al_isi (by rfl) z_isinstance boot_isinstance (aa_cons (ae_var 0) (aa_cons (ae_typ (by rfl) z_list boot_list) aa_nil))) (ae_blt call_isiA al_isi (by rfl) z_isinstance boot_isinstance (aa_cons (ae_var 1) (aa_cons (ae_typ (by rfl) z_list boot_list) aa_nil)))))))) (ass_one (as_ret ae_bl)) ass_nil) (ass_cons (as_if (at_cmp (ac_ne hr.u64 (ae_blt call_len al_len (by rfl) z_len boot_len (aa_cons (ae_var 0) aa_nil)) (ae_blt call_len al_len (by rfl) z_len boot_len (aa_cons (ae_var 1) aa_nil)))) (ass_one (as_ret ae_bl)) ass_nil) (ass_one (as_ret (ae_cmp (ac_notIn hr.u65 ae_bl (ae_lc [("k", 2)] sc__law_same.nd (blkOk_by (N := n__law_same) (sc := defScope s__law_same) (by decide +kernel)) (ai_rg1 (ae_blt call_len al_len (by rfl) z_len boot_len (aa_cons (ae_var 1) aa_nil)) (by rfl) z_range) (fun _ _ _ _ _ => (ag_n 2 sc__law_same.nd)) (fun _ _ _ _ _ => ats_nil) (fun _ _ _ _ _ => (ae_fn o__law_same hr (by rfl) (aa_cons (ae_ixd hr.u1 (ae_var 0) (ae_var 2)) (aa_cons (ae_ixd hr.u1 (ae_var 1) (ae_var 2)) aa_nil)) (npc (npc np0)))) gl_v))))))) ass_nil) (ass_cons (as_if (at_w (aw_or (at_cmp (ac_ne hr.u64 (ae_blt call_isiA al_isi (by rfl) z_isinstance boot_isinstance (aa_cons (ae_var 0) (aa_cons (ae_typ (by rfl) z_bool boot_bool) aa_nil))) (ae_blt call_isiA al_isi (by rfl) z_isinstance boot_isinstance (aa_cons (ae_var 1) (aa_cons (ae_typ (by rfl) z_bool boot_bool) aa_nil))))) (aw_or1 (at_cmp (ac_ne hr.u64 (ae_blt call_isiA al_isi (by rfl) z_isinstance boot_isinstance (aa_cons (ae_var 0) (aa_cons (ae_typ (by rfl) z_int boot_int) aa_nil))) (ae_blt call_isiA al_isi (by rfl) z_isinstance boot_isinstance (aa_cons (ae_var 1) (aa_cons (ae_typ (by rfl) z_int boot_int) aa_nil)))))))) (ass_one (as_ret ae_bl)) ass_nil) (ass_cons (as_if (at_w (aw_or (at_cmp (ac_ne hr.u64 (ae_blt call_isiA al_isi (by rfl) z_isinstance boot_isinstance (aa_cons (ae_var 0) (aa_cons (ae_typ (by rfl) z_str boot_str) aa_nil))) (ae_blt call_isiA al_isi (by rfl) z_isinstance boot_isinstance (aa_cons (ae_var 1) (aa_cons (ae_typ (by rfl) z_str boot_str) aa_nil))))) (aw_or1 (at_cmp (ac_ne hr.u64 (ae_cmp (ac_isN (ae_var 0))) (ae_cmp (ac_isN (ae_var 1)))))))) (ass_one (as_ret ae_bl)) ass_nil) (ass_one (as_ret (ae_cmp (ac_eq hr.u64 (ae_var 0) (ae_var 1))))))))
abbrev s__law_count : Stmt := topS 12
theorem sc__law_count : FnScope ["draws"] ["draws"] (defScope s__law_count) := ⟨rfl, rfl, rfl, by decide +kernel, rfl, by decide +kernel, by decide +kernel⟩
abbrev m__law_count := S_law_count
theorem ok__law_count {P : Program} {w : World} {K : PySem.W.Frag} {mg : Str → Option Value} {base : Heap} {f : Addr} {fd : FuncData} (o__law_take : Ok P w K mg base 2 "_law_take" ["draws", "many"] (some 0) 2 S_law_take) (o__law_pick : Ok P w K mg base 2 "_law_pick" ["draws", "row"] (some 0) 2 S_law_pick) (F : Fun K "_law_count" "_law_count" s__law_count f fd) : FnOk P w K mg base CX0 3 f fd ["draws"] (spM K (some 0) 1 m__law_count) :=
  F.zk (wr := (([] ++ []) ++ [])) sc__law_count (some 0) (by decide) (fun i h => by cases h; decide) fun cdv A outer s H E hr =>
    (ass_cons (as_if (at_cmp (ac_eq hr.u64 (ae_fn o__law_take hr (by rfl) (aa_cons (ae_var 0) (aa_cons ae_int aa_nil)) (npc (npc np0))) ae_int)) (ass_one (as_ret (ae_fn o__law_pick hr (by rfl) (aa_cons (ae_var 0) (aa_cons (ae_lst (aa_cons (ae_add (ae_pow ae_int ae_int) ae_int) (aa_cons (ae_add (ae_pow ae_int ae_int) ae_int) (aa_cons (ae_add (ae_pow ae_int ae_int) ae_int) aa_nil)))) aa_nil)) (npc (npc np0))))) ass_nil) (ass_one (as_ret (ae_add ae_int (ae_fn o__law_take hr (by rfl) (aa_cons (ae_var 0) (aa_cons (ae_fn o__law_pick hr (by rfl) (aa_cons (ae_var 0) (aa_cons (ae_lst (aa_cons ae_int (aa_cons ae_int (aa_cons ae_int aa_nil)))) aa_nil)) (npc (npc np0))) aa_nil)) (npc (npc np0)))))))
abbrev s__law_plain : Stmt := topS 13
abbrev n__law_plain : List Str := ["draws", "keys", "many", "k"]
theorem sc__law_plain : FnScope ["draws", "keys", "many", "k"] ["draws", "keys", "many"] (defScope s__law_plain) := ⟨rfl, rfl, rfl, by decide +kernel, rfl, by decide +kernel, by decide +kernel⟩
abbrev m__law_plain := S_law_plain
theorem ok__law_plain {P : Program} {w : World} {K : PySem.W.Frag} {mg : Str → Option Value} {base : Heap} {f : Addr} {fd : FuncData} (z_range : mg "range" = none) (z_tuple : mg "tuple" = none) (o__law_take : Ok P w K mg base 2 "_law_take" ["draws", "many"] (some 0) 2 S_law_take) (o__law_pick : Ok P w K mg base 2 "_law_pick" ["draws", "row"] (some 0) 2 S_law_pick) (F : Fun K "_law_plain" "_law_plain" s__law_plain f fd) : FnOk P w K mg base CX0 3 f fd ["draws", "keys", "many"] (spM K (some 0) 3 m__law_plain) :=
  F.zk (wr := []) sc__law_plain (some 0) (by decide) (fun i h => by cases h; decide) fun cdv A outer s H E hr =>
    (ass_one (as_ret (ae_bty call_tuple_of al_tuple (by rfl) z_tuple boot_tuple (aa_cons (ae_lc [("k", 3)] sc__law_plain.nd (blkOk_by (N := n__law_plain) (sc := defScope s__law_plain) (by decide +kernel)) (ai_rg1 (ae_fn o__law_take hr (by rfl) (aa_cons (ae_var 0) (aa_cons (ae_add (ae_var 2) ae_int) aa_nil)) (npc (npc np0))) (by rfl) z_range) (fun _ _ _ _ _ => (ag_n 3 sc__law_plain.nd)) (fun _ _ _ _ _ => ats_nil) (fun _ _ _ _ _ => (ae_fn o__law_pick hr (by rfl) (aa_cons (ae_var 0) (aa_cons (ae_var 1) aa_nil)) (npc (npc np0)))) gl_v) aa_nil))))
abbrev s__law_rising : Stmt := topS 14
abbrev n__law_rising : List Str := ["draws", "keys", "many", "k"]
theorem sc__law_rising : FnScope ["draws", "keys", "many", "k"] ["draws", "keys", "many"] (defScope s__law_rising) := ⟨rfl, rfl, rfl, by decide +kernel, rfl, by decide +kernel, by decide +kernel⟩
abbrev m__law_rising := S_law_rising
theorem ok__law_rising {P : Program} {w : World} {K : PySem.W.Frag} {mg : Str → Option Value} {base : Heap} {f : Addr} {fd : FuncData} (z_range : mg "range" = none) (z_tuple : mg "tuple" = none) (o__law_take : Ok P w K mg base 3 "_law_take" ["draws", "many"] (some 0) 2 S_law_take) (o__law_count : Ok P w K mg base 3 "_law_count" ["draws"] (some 0) 1 S_law_count) (o__law_pick : Ok P w K mg base 3 "_law_pick" ["draws", "row"] (some 0) 2 S_law_pick) (F : Fun K "_law_rising" "_law_rising" s__law_rising f fd) : FnOk P w K mg base CX0 4 f fd ["draws", "keys", "many"] (spM K (some 0) 3 m__law_rising) :=
  F.zk (wr := []) sc__law_rising (some 0) (by decide) (fun i h => by cases h; decide) fun cdv A outer s H E hr =>
    (ass_one (as_ret (ae_bty call_tuple_of al_tuple (by rfl) z_tuple boot_tuple (aa_cons (ae_lc [("k", 3)] sc__law_rising.nd (blkOk_by (N := n__law_rising) (sc := defScope s__law_rising) (by decide +kernel)) (ai_rg1 (ae_fn o__law_take hr (by rfl) (aa_cons (ae_var 0) (aa_cons (ae_add (ae_var 2) ae_int) aa_nil)) (npc (npc np0))) (by rfl) z_range) (fun _ _ _ _ _ => (ag_n 3 sc__law_rising.nd)) (fun _ _ _ _ _ => ats_nil) (fun _ _ _ _ _ => (ae_tup (aa_cons (ae_fn o__law_pick hr (by rfl) (aa_cons (ae_var 0) (aa_cons (ae_var 1) aa_nil)) (npc (npc np0))) (aa_cons (ae_fn o__law_count hr (by rfl) (aa_cons (ae_var 0) aa_nil) (npc np0)) aa_nil)))) gl_v) aa_nil))))
abbrev s__law_units : Stmt := topS 15
abbrev n__law_units : List Str := ["plain", "key"]
theorem sc__law_units : FnScope ["plain", "key"] ["plain"] (defScope s__law_units) := ⟨rfl, rfl, rfl, by decide +kernel, rfl, by decide +kernel, by decide +kernel⟩
abbrev m__law_units := S_law_units
theorem ok__law_units {P : Program} {w : World} {K : PySem.W.Frag} {mg : Str → Option Value} {base : Heap} {f : Addr} {fd : FuncData} (z_tuple : mg "tuple" = none) (F : Fun K "_law_units" "_law_units" s__law_units f fd) : FnOk P w K mg base CX0 1 f fd ["plain"] (spM K none 1 m__law_units) :=
  F.zk (wr := []) sc__law_units none (by decide) (fun i h => by cases h) fun cdv A outer s H E hr =>
    (ass_one (as_ret (ae_bty call_tuple_of al_tuple (by rfl) z_tuple boot_tuple (aa_cons (ae_lc [("key", 1)] sc__law_units.nd (blkOk_by (N := n__law_units) (sc := defScope s__law_units) (by decide +kernel)) (ai_seq (ae_var 0)) (fun _ _ _ _ _ => (ag_n 1 sc__law_units.nd)) (fun _ _ _ _ _ => ats_nil) (fun _ _ _ _ _ => (ae_tup (aa_cons (ae_var 1) (aa_cons ae_int aa_nil)))) gl_v) aa_nil))))
abbrev s__law_long_plain : Stmt := topS 16
theorem sc__law_long_plain : FnScope ["draws", "keys", "plain"] ["draws", "keys"] (defScope s__law_long_plain) := ⟨rfl, rfl, rfl, by decide +kernel, rfl, by decide +kernel, by decide +kernel⟩
abbrev m__law_long_plain := S_law_long_plain
theorem ok__law_long_plain {P : Program} {w : World} {K : PySem.W.Frag} {mg : Str → Option Value} {base : Heap} {f : Addr} {fd : FuncData} (z_len : mg "len" = none) (o__law_plain : Ok P w K mg base 3 "_law_plain" ["draws", "keys", "many"] (some 0) 3 S_law_plain) (o__law_take : Ok P w K mg base 3 "_law_take" ["draws", "many"] (some 0) 2 S_law_take) (F : Fun K "_law_long_plain" "_law_long_plain" s__law_long_plain f fd) : FnOk P w K mg base CX0 4 f fd ["draws", "keys"] (spM K (some 0) 2 m__law_long_plain) :=
  F.zk (wr := ([2] ++ (([2] ++ []) ++ []))) sc__law_long_plain (some 0) (by decide) (fun i h => by cases h; decide) fun cdv A outer s H E hr =>
    (ass_cons (as_set 2 (ae_fn o__law_plain hr (by rfl) (aa_cons (ae_var 0) (aa_cons (ae_var 1) (aa_cons ae_int aa_nil))) (npc (npc (npc np0)))) sc__law_long_plain.nd) (ass_cons (as_if (at_w (aw_and (at_cmp (ac_gt (ae_blt call_len al_len (by rfl) z_len boot_len (aa_cons (ae_var 2) aa_nil)) ae_int)) (aw_and1 (at_cmp (ac_eq hr.u64 (ae_fn o__law_take hr (by rfl) (aa_cons (ae_var 0) (aa_cons ae_int aa_nil)) (npc (npc np0))) ae_int))))) (ass_one (as_set 2 (ae_sl (ae_mul (ae_var 2) ae_int) ao_none (ao_some (ae_sub ae_int (ae_fn o__law_take hr (by rfl) (aa_cons (ae_var 0) (aa_cons ae_int aa_nil)) (npc (npc np0)))))) sc__law_long_plain.nd)) ass_nil) (ass_one (as_ret (ae_var 2)))))
abbrev s__law_cancelled : Stmt := topS 17
abbrev n__law_cancelled : List Str := ["stream", "k", "table", "off", "key", "count", "least", "one", "left"]
theorem sc__law_cancelled : FnScope ["stream", "k", "table", "off", "key", "count", "least", "one", "left"] ["stream", "k"] (defScope s__law_cancelled) := ⟨rfl, rfl, rfl, by decide +kernel, rfl, by decide +kernel, by decide +kernel⟩
abbrev m__law_cancelled := S_law_cancelled
theorem ok__law_cancelled {P : Program} {w : World} {K : PySem.W.Frag} {mg : Str → Option Value} {base : Heap} {f : Addr} {fd : FuncData} (z_len : mg "len" = none) (z_min : mg "min" = none) (z_sorted : mg "sorted" = none) (z_tuple : mg "tuple" = none) (F : Fun K "_law_cancelled" "_law_cancelled" s__law_cancelled f fd) : FnOk P w K mg base CX0 1 f fd ["stream", "k"] (spM K none 2 m__law_cancelled) :=
  F.zk (wr := ([2] ++ ([3] ++ ((([4] ++ ([5] ++ [])) ++ ([] ++ (([6] ++ ([3] ++ ([8] ++ (([7] ++ ([] ++ [])) ++ [2])))) ++ []))) ++ [])))) sc__law_cancelled none (by decide) (fun i h => by cases h) fun cdv A outer s H E hr =>
    (ass_cons (as_set 2 ae_dicK sc__law_cancelled.nd) (ass_cons (as_set 3 ae_int sc__law_cancelled.nd) (ass_cons (as_for PassesOwn.never (ai_seq (ae_var 0)) (ag_t (ags_cons (ag_n 4 sc__law_cancelled.nd) (ags_cons (ag_n 5 sc__law_cancelled.nd) ags_nil))) (ass_cons (as_put 2 hr.u1 (ae_var 4) (ae_add (ae_get2 hr.u1 (ae_var 2) (ae_var 4) ae_int ⟨rfl, rfl, rfl, rfl⟩) (ae_var 5))) (ass_one (as_if (at_cmp (ac_gt (ae_blt cr_lenD al_lenD (by rfl) z_len boot_len (aa_cons (ae_var 2) aa_nil)) (ae_var 1))) (ass_cons (as_set 6 (ae_blt call_minA al_min (by rfl) z_min boot_min (aa_cons (ae_lcF 2 wlkKeys [("one", 7)] sc__law_cancelled.nd (blkOk_by (N := n__law_cancelled) (sc := defScope s__law_cancelled) (by decide +kernel)) (pi_kN 2) (fun _ _ _ _ _ => (ag_n 7 sc__law_cancelled.nd)) (fun _ _ _ _ _ => ats_nil) (fun _ _ _ _ _ => (ae_ixd hr.u1 (ae_var 2) (ae_var 7))) gl_v) aa_nil)) sc__law_cancelled.nd) (ass_cons (as_set 3 (ae_add (ae_var 3) (ae_var 6)) sc__law_cancelled.nd) (ass_cons (as_set 8 ae_dicK sc__law_cancelled.nd) (ass_cons (as_forF 2 wlkKeys PassesOwn.never (pi_kN 2) (ag_n 7 sc__law_cancelled.nd) (ass_one (as_if (at_cmp (ac_gt (ae_ixd hr.u1 (ae_var 2) (ae_var 7)) (ae_var 6))) (ass_one (as_put 8 hr.u1 (ae_var 7) (ae_sub (ae_ixd hr.u1 (ae_var 2) (ae_var 7)) (ae_var 6)))) ass_nil))) (ass_one (as_mov 2 8 sc__law_cancelled.nd)))))) ass_nil)))) (ass_one (as_ret (ae_tup (aa_cons (ae_bty call_tuple_of al_tuple (by rfl) z_tuple boot_tuple (aa_cons (ae_lc [("key", 4)] sc__law_cancelled.nd (blkOk_by (N := n__law_cancelled) (sc := defScope s__law_cancelled) (by decide +kernel)) (ai_seq (ae_srt (by rfl) z_sorted (ae_var 2))) (fun _ _ _ _ _ => (ag_n 4 sc__law_cancelled.nd)) (fun _ _ _ _ _ => ats_nil) (fun _ _ _ _ _ => (ae_tup (aa_cons (ae_var 4) (aa_cons (ae_ixd hr.u1 (ae_var 2) (ae_var 4)) aa_nil)))) gl_v) aa_nil)) (aa_cons (ae_var 3) aa_nil))))))))
abbrev s__law_space_entries : Stmt := topS 18
abbrev n__law_space_entries : List Str := ["stream", "k", "entries", "key", "count", "there", "entry", "least", "goes"]
theorem sc__law_space_entries : FnScope ["stream", "k", "entries", "key", "count", "there", "entry", "least", "goes"] ["stream", "k"] (defScope s__law_space_entries) := ⟨rfl, rfl, rfl, by decide +kernel, rfl, by decide +kernel, by decide +kernel⟩
abbrev m__law_space_entries := S_law_space_entries
theorem ok__law_space_entries {P : Program} {w : World} {K : PySem.W.Frag} {mg : Str → Option Value} {base : Heap} {f : Addr} {fd : FuncData} (z_len : mg "len" = none) (z_min : mg "min" = none) (z_sorted : mg "sorted" = none) (z_tuple : mg "tuple" = none) (F : Fun K "_law_space_entries" "_law_space_entries" s__law_space_entries f fd) : FnOk P w K mg base CX0 1 f fd ["stream", "k"] (spM K none 2 m__law_space_entries) :=
  F.zk (wr := ([2] ++ ((([3] ++ ([4] ++ [])) ++ ([5] ++ (([2] ++ ([2] ++ ([7] ++ ([8] ++ [2])))) ++ [2]))) ++ []))) sc__law_space_entries none (by decide) (fun i h => by cases h) fun cdv A outer s H E hr =>
    (ass_cons (as_set 2 (ae_lst aa_nil) sc__law_space_entries.nd) (ass_cons (as_for PassesOwn.never (ai_seq (ae_var 0)) (ag_t (ags_cons (ag_n 3 sc__law_space_entries.nd) (ags_cons (ag_n 4 sc__law_space_entries.nd) ags_nil))) (ass_cons (as_setLc 5 [("entry", 6)] sc__law_space_entries.nd (blkOk_by (N := n__law_space_entries) (sc := defScope s__law_space_entries) (by decide +kernel)) (ai_seq (ae_var 2)) (fun _ _ _ _ _ => (ag_n 6 sc__law_space_entries.nd)) (fun _ _ _ _ _ => (ats_one (at_cmp (ac_eq hr.u64 (ae_ixd hr.u1 (ae_var 6) ae_int) (ae_var 3))))) (fun _ _ _ _ _ => (ae_var 6)) gl_v (by decide +kernel)) (ass_cons (as_if (at_cmp (ac_gt (ae_blt call_len al_len (by rfl) z_len boot_len (aa_cons (ae_var 5) aa_nil)) ae_int)) (ass_one (as_set 2 (ae_add (ae_lc [("entry", 6)] sc__law_space_entries.nd (blkOk_by (N := n__law_space_entries) (sc := defScope s__law_space_entries) (by decide +kernel)) (ai_seq (ae_var 2)) (fun _ _ _ _ _ => (ag_n 6 sc__law_space_entries.nd)) (fun _ _ _ _ _ => (ats_one (at_cmp (ac_ne hr.u64 (ae_ixd hr.u1 (ae_var 6) ae_int) (ae_var 3))))) (fun _ _ _ _ _ => (ae_var 6)) gl_v) (ae_lst (aa_cons (ae_tup (aa_cons (ae_var 3) (aa_cons (ae_add (ae_ixd hr.u1 (ae_ixd hr.u1 (ae_var 5) ae_int) ae_int) (ae_var 4)) (aa_cons (ae_ixd hr.u1 (ae_ixd hr.u1 (ae_var 5) ae_int) ae_int) aa_nil)))) aa_nil))) sc__law_space_entries.nd)) (ass_one (as_if (at_cmp (ac_lt (ae_blt call_len al_len (by rfl) z_len boot_len (aa_cons (ae_var 2) aa_nil)) (ae_var 1))) (ass_one (as_set 2 (ae_add (ae_var 2) (ae_lst (aa_cons (ae_tup (aa_cons (ae_var 3) (aa_cons (ae_var 4) (aa_cons ae_int aa_nil)))) aa_nil))) sc__law_space_entries.nd)) (ass_cons (as_set 7 (ae_blt call_minA al_min (by rfl) z_min boot_min (aa_cons (ae_lc [("entry", 6)] sc__law_space_entries.nd (blkOk_by (N := n__law_space_entries) (sc := defScope s__law_space_entries) (by decide +kernel)) (ai_seq (ae_var 2)) (fun _ _ _ _ _ => (ag_n 6 sc__law_space_entries.nd)) (fun _ _ _ _ _ => ats_nil) (fun _ _ _ _ _ => (ae_ixd hr.u1 (ae_var 6) ae_int)) gl_v) aa_nil)) sc__law_space_entries.nd) (ass_cons (as_set 8 (ae_ixd hr.u1 (ae_lc [("entry", 6)] sc__law_space_entries.nd (blkOk_by (N := n__law_space_entries) (sc := defScope s__law_space_entries) (by decide +kernel)) (ai_seq (ae_var 2)) (fun _ _ _ _ _ => (ag_n 6 sc__law_space_entries.nd)) (fun _ _ _ _ _ => (ats_one (at_cmp (ac_eq hr.u64 (ae_ixd hr.u1 (ae_var 6) ae_int) (ae_var 7))))) (fun _ _ _ _ _ => (ae_var 6)) gl_v) ae_int) sc__law_space_entries.nd) (ass_one (as_set 2 (ae_add (ae_lc [("entry", 6)] sc__law_space_entries.nd (blkOk_by (N := n__law_space_entries) (sc := defScope s__law_space_entries) (by decide +kernel)) (ai_seq (ae_var 2)) (fun _ _ _ _ _ => (ag_n 6 sc__law_space_entries.nd)) (fun _ _ _ _ _ => (ats_one (at_cmp (ac_ne hr.u64 (ae_var 6) (ae_var 8))))) (fun _ _ _ _ _ => (ae_var 6)) gl_v) (ae_lst (aa_cons (ae_tup (aa_cons (ae_var 3) (aa_cons (ae_add (ae_var 7) (ae_var 4)) (aa_cons (ae_var 7) aa_nil)))) aa_nil))) sc__law_space_entries.nd))))))) (ass_one (as_set 2 (ae_srtL (by rfl) z_sorted (ae_var 2)) sc__law_space_entries.nd))))) (ass_one (as_ret (ae_bty call_tuple_of al_tuple (by rfl) z_tuple boot_tuple (aa_cons (ae_var 2) aa_nil))))))
abbrev s__law_space_bounds : Stmt := topS 19
abbrev n__law_space_bounds : List Str := ["entries", "k", "key", "there", "entry"]
theorem sc__law_space_bounds : FnScope ["entries", "k", "key", "there", "entry"] ["entries", "k", "key"] (defScope s__law_space_bounds) := ⟨rfl, rfl, rfl, by decide +kernel, rfl, by decide +kernel, by decide +kernel⟩
abbrev m__law_space_bounds := S_law_space_bounds
theorem ok__law_space_bounds {P : Program} {w : World} {K : PySem.W.Frag} {mg : Str → Option Value} {base : Heap} {f : Addr} {fd : FuncData} (z_len : mg "len" = none) (z_min : mg "min" = none) (F : Fun K "_law_space_bounds" "_law_space_bounds" s__law_space_bounds f fd) : FnOk P w K mg base CX0 1 f fd ["entries", "k", "key"] (spM K none 3 m__law_space_bounds) :=
  F.zk (wr := ([3] ++ (([] ++ []) ++ (([] ++ []) ++ [])))) sc__law_space_bounds none (by decide) (fun i h => by cases h) fun cdv A outer s H E hr =>
    (ass_cons (as_setLc 3 [("entry", 4)] sc__law_space_bounds.nd (blkOk_by (N := n__law_space_bounds) (sc := defScope s__law_space_bounds) (by decide +kernel)) (ai_seq (ae_var 0)) (fun _ _ _ _ _ => (ag_n 4 sc__law_space_bounds.nd)) (fun _ _ _ _ _ => (ats_one (at_cmp (ac_eq hr.u64 (ae_ixd hr.u1 (ae_var 4) ae_int) (ae_var 2))))) (fun _ _ _ _ _ => (ae_var 4)) gl_v (by decide +kernel)) (ass_cons (as_if (at_cmp (ac_gt (ae_blt call_len al_len (by rfl) z_len boot_len (aa_cons (ae_var 3) aa_nil)) ae_int)) (ass_one (as_ret (ae_tup (aa_cons (ae_sub (ae_ixd hr.u1 (ae_ixd hr.u1 (ae_var 3) ae_int) ae_int) (ae_ixd hr.u1 (ae_ixd hr.u1 (ae_var 3) ae_int) ae_int)) (aa_cons (ae_ixd hr.u1 (ae_ixd hr.u1 (ae_var 3) ae_int) ae_int) aa_nil))))) ass_nil) (ass_cons (as_if (at_cmp (ac_lt (ae_blt call_len al_len (by rfl) z_len boot_len (aa_cons (ae_var 0) aa_nil)) (ae_var 1))) (ass_one (as_ret (ae_tup (aa_cons ae_int (aa_cons ae_int aa_nil))))) ass_nil) (ass_one (as_ret (ae_tup (aa_cons ae_int (aa_cons (ae_blt call_minA al_min (by rfl) z_min boot_min (aa_cons (ae_lc [("entry", 4)] sc__law_space_bounds.nd (blkOk_by (N := n__law_space_bounds) (sc := defScope s__law_space_bounds) (by decide +kernel)) (ai_seq (ae_var 0)) (fun _ _ _ _ _ => (ag_n 4 sc__law_space_bounds.nd)) (fun _ _ _ _ _ => ats_nil) (fun _ _ _ _ _ => (ae_ixd hr.u1 (ae_var 4) ae_int)) gl_v) aa_nil)) aa_nil))))))))
abbrev s__law_rising_stream : Stmt := topS 20
abbrev n__law_rising_stream : List Str := ["draws", "keys", "kind", "k"]
theorem sc__law_rising_stream : FnScope ["draws", "keys", "kind", "k"] ["draws", "keys"] (defScope s__law_rising_stream) := ⟨rfl, rfl, rfl, by decide +kernel, rfl, by decide +kernel, by decide +kernel⟩
abbrev m__law_rising_stream := S_law_rising_stream
theorem ok__law_rising_stream {P : Program} {w : World} {K : PySem.W.Frag} {mg : Str → Option Value} {base : Heap} {f : Addr} {fd : FuncData} (z_range : mg "range" = none) (z_tuple : mg "tuple" = none) (o__law_take : Ok P w K mg base 4 "_law_take" ["draws", "many"] (some 0) 2 S_law_take) (o__law_units : Ok P w K mg base 4 "_law_units" ["plain"] none 1 S_law_units) (o__law_long_plain : Ok P w K mg base 4 "_law_long_plain" ["draws", "keys"] (some 0) 2 S_law_long_plain) (o__law_rising : Ok P w K mg base 4 "_law_rising" ["draws", "keys", "many"] (some 0) 3 S_law_rising) (o__law_pick : Ok P w K mg base 4 "_law_pick" ["draws", "row"] (some 0) 2 S_law_pick) (F : Fun K "_law_rising_stream" "_law_rising_stream" s__law_rising_stream f fd) : FnOk P w K mg base CX0 5 f fd ["draws", "keys"] (spM K (some 0) 2 m__law_rising_stream) :=
  F.zk (wr := ([2] ++ (([] ++ []) ++ (([] ++ []) ++ [])))) sc__law_rising_stream (some 0) (by decide) (fun i h => by cases h; decide) fun cdv A outer s H E hr =>
    (ass_cons (as_set 2 (ae_fn o__law_take hr (by rfl) (aa_cons (ae_var 0) (aa_cons ae_int aa_nil)) (npc (npc np0))) sc__law_rising_stream.nd) (ass_cons (as_if (at_cmp (ac_eq hr.u64 (ae_var 2) ae_int)) (ass_one (as_ret (ae_fn o__law_units hr (by rfl) (aa_cons (ae_fn o__law_long_plain hr (by rfl) (aa_cons (ae_var 0) (aa_cons (ae_var 1) aa_nil)) (npc (npc np0))) aa_nil) (npc np0)))) ass_nil) (ass_cons (as_if (at_cmp (ac_eq hr.u64 (ae_var 2) ae_int)) (ass_one (as_ret (ae_fn o__law_rising hr (by rfl) (aa_cons (ae_var 0) (aa_cons (ae_var 1) (aa_cons ae_int aa_nil))) (npc (npc (npc np0)))))) ass_nil) (ass_one (as_ret (ae_bty call_tuple_of al_tuple (by rfl) z_tuple boot_tuple (aa_cons (ae_lc [("k", 3)] sc__law_rising_stream.nd (blkOk_by (N := n__law_rising_stream) (sc := defScope s__law_rising_stream) (by decide +kernel)) (ai_rg1 (ae_fn o__law_take hr (by rfl) (aa_cons (ae_var 0) (aa_cons ae_int aa_nil)) (npc (npc np0))) (by rfl) z_range) (fun _ _ _ _ _ => (ag_n 3 sc__law_rising_stream.nd)) (fun _ _ _ _ _ => ats_nil) (fun _ _ _ _ _ => (ae_tup (aa_cons (ae_fn o__law_pick hr (by rfl) (aa_cons (ae_var 0) (aa_cons (ae_var 1) aa_nil)) (npc (npc np0))) (aa_cons (ae_add ae_int (ae_fn o__law_take hr (by rfl) (aa_cons (ae_var 0) (aa_cons ae_int aa_nil)) (npc (npc np0)))) aa_nil)))) gl_v) aa_nil)))))))
abbrev s__law_many_keys : Stmt := topS 21
theorem sc__law_many_keys : FnScope ["draws", "found", "k", "key"] ["draws"] (defScope s__law_many_keys) := ⟨rfl, rfl, rfl, by decide +kernel, rfl, by decide +kernel, by decide +kernel⟩
abbrev m__law_many_keys := S_law_many_keys
theorem ok__law_many_keys {P : Program} {w : World} {K : PySem.W.Frag} {mg : Str → Option Value} {base : Heap} {f : Addr} {fd : FuncData} (z_range : mg "range" = none) (o__law_take : Ok P w K mg base 1 "_law_take" ["draws", "many"] (some 0) 2 S_law_take) (F : Fun K "_law_many_keys" "_law_many_keys" s__law_many_keys f fd) : FnOk P w K mg base CX0 2 f fd ["draws"] (spM K (some 0) 1 m__law_many_keys) :=
  F.zk (wr := ([1] ++ (([2] ++ ([3] ++ ([] ++ []))) ++ []))) sc__law_many_keys (some 0) (by decide) (fun i h => by cases h; decide) fun cdv A outer s H E hr =>
    (ass_cons (as_set 1 (ae_lst aa_nil) sc__law_many_keys.nd) (ass_cons (as_for PassesOwn.never (ai_rg1 (ae_add ae_int (ae_fn o__law_take hr (by rfl) (aa_cons (ae_var 0) (aa_cons ae_int aa_nil)) (npc (npc np0)))) (by rfl) z_range) (ag_n 2 sc__law_many_keys.nd) (ass_cons (as_set 3 (ae_fn o__law_take hr (by rfl) (aa_cons (ae_var 0) (aa_cons ae_int aa_nil)) (npc (npc np0))) sc__law_many_keys.nd) (ass_one (as_if (at_cmp (ac_notIn hr.u65 (ae_var 3) (ae_var 1))) (ass_one (as_ex (ae_app 1 (ae_var 3)))) ass_nil)))) (ass_one (as_ret (ae_var 1)))))
abbrev s__law_as_one : Stmt := topS 22
abbrev n__law_as_one : List Str := ["plain", "k", "stream", "entries", "least", "entry", "told", "due", "pair"]
theorem sc__law_as_one : FnScope ["plain", "k", "stream", "entries", "least", "entry", "told", "due", "pair"] ["plain", "k"] (defScope s__law_as_one) := ⟨rfl, rfl, rfl, by decide +kernel, rfl, by decide +kernel, by decide +kernel⟩
abbrev m__law_as_one := S_law_as_one
theorem ok__law_as_one {P : Program} {w : World} {K : PySem.W.Frag} {mg : Str → Option Value} {base : Heap} {f : Addr} {fd : FuncData} (z_len : mg "len" = none) (z_min : mg "min" = none) (z_sorted : mg "sorted" = none) (o__law_units : Ok P w K mg base 2 "_law_units" ["plain"] none 1 S_law_units) (o_space_summary : Ok P w K mg base 2 "space_summary" ["stream", "k"] none 2 S_space_summary) (o__law_cancelled : Ok P w K mg base 2 "_law_cancelled" ["stream", "k"] none 2 S_law_cancelled) (o_counter_summary : Ok P w K mg base 2 "counter_summary" ["stream", "k"] none 2 S_counter_summary) (F : Fun K "_law_as_one" "_law_as_one" s__law_as_one f fd) : FnOk P w K mg base CX0 3 f fd ["plain", "k"] (spM K none 2 m__law_as_one) :=
  F.zk (wr := ([2] ++ ([3] ++ ([4] ++ (([4] ++ []) ++ ([6] ++ ([7] ++ []))))))) sc__law_as_one none (by decide) (fun i h => by cases h) fun cdv A outer s H E hr =>
    (ass_cons (as_set 2 (ae_fn o__law_units hr (by rfl) (aa_cons (ae_var 0) aa_nil) (npc np0)) sc__law_as_one.nd) (ass_cons (as_set 3 (ae_fn o_space_summary hr (by rfl) (aa_cons (ae_var 2) (aa_cons (ae_add (ae_var 1) ae_int) aa_nil)) (npc (npc np0))) sc__law_as_one.nd) (ass_cons (as_set 4 ae_int sc__law_as_one.nd) (ass_cons (as_if (at_cmp (ac_eq hr.u64 (ae_blt call_len al_len (by rfl) z_len boot_len (aa_cons (ae_var 3) aa_nil)) (ae_add (ae_var 1) ae_int))) (ass_one (as_set 4 (ae_blt call_minA al_min (by rfl) z_min boot_min (aa_cons (ae_lc [("entry", 5)] sc__law_as_one.nd (blkOk_by (N := n__law_as_one) (sc := defScope s__law_as_one) (by decide +kernel)) (ai_seq (ae_var 3)) (fun _ _ _ _ _ => (ag_n 5 sc__law_as_one.nd)) (fun _ _ _ _ _ => ats_nil) (fun _ _ _ _ _ => (ae_ixd hr.u1 (ae_var 5) ae_int)) gl_v) aa_nil)) sc__law_as_one.nd)) ass_nil) (ass_cons (as_set 6 (ae_srt (by rfl) z_sorted (ae_lc [("entry", 5)] sc__law_as_one.nd (blkOk_by (N := n__law_as_one) (sc := defScope s__law_as_one) (by decide +kernel)) (ai_seq (ae_var 3)) (fun _ _ _ _ _ => (ag_n 5 sc__law_as_one.nd)) (fun _ _ _ _ _ => (ats_one (at_cmp (ac_gt (ae_ixd hr.u1 (ae_var 5) ae_int) (ae_var 4))))) (fun _ _ _ _ _ => (ae_sub (ae_ixd hr.u1 (ae_var 5) ae_int) (ae_var 4))) gl_v)) sc__law_as_one.nd) (ass_cons (as_set 7 (ae_srt (by rfl) z_sorted (ae_lc [("pair", 8)] sc__law_as_one.nd (blkOk_by (N := n__law_as_one) (sc := defScope s__law_as_one) (by decide +kernel)) (ai_seq (ae_ixd hr.u1 (ae_fn o__law_cancelled hr (by rfl) (aa_cons (ae_var 2) (aa_cons (ae_var 1) aa_nil)) (npc (npc np0))) ae_int)) (fun _ _ _ _ _ => (ag_n 8 sc__law_as_one.nd)) (fun _ _ _ _ _ => ats_nil) (fun _ _ _ _ _ => (ae_ixd hr.u1 (ae_var 8) ae_int)) gl_v)) sc__law_as_one.nd) (ass_one (as_ret (ae_andV (ae_cmp (ac_eq hr.u64 (ae_var 6) (ae_var 7))) (ae_one (ae_cmp (ac_eq hr.u64 (ae_srt (by rfl) z_sorted (ae_lc [("pair", 8)] sc__law_as_one.nd (blkOk_by (N := n__law_as_one) (sc := defScope s__law_as_one) (by decide +kernel)) (ai_seq (ae_ixd hr.u1 (ae_fn o_counter_summary hr (by rfl) (aa_cons (ae_var 2) (aa_cons (ae_var 1) aa_nil)) (npc (npc np0))) ae_int)) (fun _ _ _ _ _ => (ag_n 8 sc__law_as_one.nd)) (fun _ _ _ _ _ => ats_nil) (fun _ _ _ _ _ => (ae_ixd hr.u1 (ae_var 8) ae_int)) gl_v)) (ae_var 7)))))))))))))
abbrev s_law : Stmt := topS 23
theorem sc_law : FnScope ["script", "draws", "turn", "keys", "stream", "k", "due", "key"] ["script"] (defScope s_law) := ⟨rfl, rfl, rfl, by decide +kernel, rfl, by decide +kernel, by decide +kernel⟩
def b_law : Fs := (mSeq (mSet 1 (mCall none S_law_draws (mAc (mVar 0) (mAc (mC (.int 700)) mA0)))) (mSeq (mFor (mRg1 (mC (.int 4))) (tgV 2) (mSeq (mSet 3 (mCall (some 0) S_law_many_keys (mAc (mVar 1) mA0))) (mSeq (mSet 4 (mCall (some 0) S_law_rising_stream (mAc (mVar 1) (mAc (mVar 3) mA0)))) (mSeq (mSet 5 (mAdd (mC (.int 1)) (mCall (some 0) S_law_take (mAc (mVar 1) (mAc (mCall (some 0) S_law_pick (mAc (mVar 1) (mAc (mLst (mAc (mC (.int 2)) (mAc (mC (.int 5)) (mAc (mC (.int 13)) mA0)))) mA0))) mA0))))) (mSeq (mSet 6 (mCall none S_law_space_entries (mAc (mVar 4) (mAc (mVar 5) mA0)))) (mSeq (mIfS (mNotT (mTr (mCall none (S_law_same 8) (mAc (mCall none S_space_summary (mAc (mVar 4) (mAc (mVar 5) mA0))) (mAc (mVar 6) mA0))))) (mRet (mC (.bl false))) mNx) (mSeq (mFor (mSq (mAdd (mVar 3) (mLst (mAc (mC (.int 0)) (mAc (mCall (some 0) S_law_take (mAc (mVar 1) (mAc (mC (.int 1001)) mA0))) mA0))))) (tgV 7) (mIfS (mNotT (mTr (mCall none (S_law_same 8) (mAc (mCall none S_space_bounds (mAc (mVar 6) (mAc (mVar 5) (mAc (mVar 7) mA0)))) (mAc (mCall none S_law_space_bounds (mAc (mVar 6) (mAc (mVar 5) (mAc (mVar 7) mA0)))) mA0))))) (mRet (mC (.bl false))) mNx)) (mIfS (mNotT (mTr (mCall none S_law_as_one (mAc (mCall (some 0) S_law_long_plain (mAc (mVar 1) (mAc (mVar 3) mA0))) (mAc (mVar 5) mA0))))) (mRet (mC (.bl false))) mNx)))))))) (mSeq (mIfS (mNotT (mTr (mCall none (S_law_same 8) (mAc (mCall none S_space_summary (mAc (mTup (mAc (mTup (mAc (mC (.int 4)) (mAc (mC (.int 2)) mA0))) (mAc (mTup (mAc (mC (.int 1)) (mAc (mC (.int 2)) mA0))) (mAc (mTup (mAc (mC (.int 7)) (mAc (mC (.int 1)) mA0))) (mAc (mTup (mAc (mC (.int 4)) (mAc (mC (.int 1)) mA0))) mA0))))) (mAc (mC (.int 2)) mA0))) (mAc (mTup (mAc (mTup (mAc (mC (.int 4)) (mAc (mC (.int 3)) (mAc (mC (.int 0)) mA0)))) (mAc (mTup (mAc (mC (.int 7)) (mAc (mC (.int 3)) (mAc (mC (.int 2)) mA0)))) mA0))) mA0))))) (mRet (mC (.bl false))) mNx) (mRet (mAndV (mCall none (S_law_same 8) (mAc (mCall none S_space_summary (mAc (mTup mA0) (mAc (mC (.int 2)) mA0))) (mAc (mTup mA0) mA0))) (mCall none (S_law_same 8) (mAc (mCall none S_space_bounds (mAc (mTup mA0) (mAc (mC (.int 1)) (mAc (mC (.int 3)) mA0)))) (mAc (mTup (mAc (mC (.int 0)) (mAc (mC (.int 0)) mA0))) mA0))))))))
def m_law : Mir := mDef none 8 b_law
theorem ok_law {P : Program} {w : World} {K : PySem.W.Frag} {mg : Str → Option Value} {base : Heap} {f : Addr} {fd : FuncData} (z_range : mg "range" = none) (o__law_draws : Ok P w K mg base 8 "_law_draws" ["script", "many"] none 2 S_law_draws) (o__law_many_keys : Ok P w K mg base 8 "_law_many_keys" ["draws"] (some 0) 1 S_law_many_keys) (o__law_rising_stream : Ok P w K mg base 8 "_law_rising_stream" ["draws", "keys"] (some 0) 2 S_law_rising_stream) (o__law_take : Ok P w K mg base 8 "_law_take" ["draws", "many"] (some 0) 2 S_law_take) (o__law_pick : Ok P w K mg base 8 "_law_pick" ["draws", "row"] (some 0) 2 S_law_pick) (o__law_space_entries : Ok P w K mg base 8 "_law_space_entries" ["stream", "k"] none 2 S_law_space_entries) (o__law_same : Ok P w K mg base 8 "_law_same" ["actual", "due"] none 2 (S_law_same 8)) (o_space_summary : Ok P w K mg base 8 "space_summary" ["stream", "k"] none 2 S_space_summary) (o__law_space_bounds : Ok P w K mg base 8 "_law_space_bounds" ["entries", "k", "key"] none 3 S_law_space_bounds) (o_space_bounds : Ok P w K mg base 8 "space_bounds" ["entries", "k", "key"] none 3 S_space_bounds) (o__law_as_one : Ok P w K mg base 8 "_law_as_one" ["plain", "k"] none 2 S_law_as_one) (o__law_long_plain : Ok P w K mg base 8 "_law_long_plain" ["draws", "keys"] (some 0) 2 S_law_long_plain) (F : Fun K "law" "law" s_law f fd) : FnOk P w K mg base CX0 9 f fd ["script"] (spM K none 1 m_law) :=
  F.zk (wr := ([1] ++ (([2] ++ ([3] ++ ([4] ++ ([5] ++ ([6] ++ (([] ++ []) ++ (([7] ++ ([] ++ [])) ++ ([] ++ [])))))))) ++ (([] ++ []) ++ [])))) sc_law none (by decide) (fun i h => by cases h) fun cdv A outer s H E hr =>
    (ass_cons (as_set 1 (ae_fn o__law_draws hr (by rfl) (aa_cons (ae_var 0) (aa_cons ae_int aa_nil)) (npc (npc np0))) sc_law.nd) (ass_cons (as_for PassesOwn.never (ai_rg1 ae_int (by rfl) z_range) (ag_n 2 sc_law.nd) (ass_cons (as_set 3 (ae_fn o__law_many_keys hr (by rfl) (aa_cons (ae_var 1) aa_nil) (npc np0)) sc_law.nd) (ass_cons (as_set 4 (ae_fn o__law_rising_stream hr (by rfl) (aa_cons (ae_var 1) (aa_cons (ae_var 3) aa_nil)) (npc (npc np0))) sc_law.nd) (ass_cons (as_set 5 (ae_add ae_int (ae_fn o__law_take hr (by rfl) (aa_cons (ae_var 1) (aa_cons (ae_fn o__law_pick hr (by rfl) (aa_cons (ae_var 1) (aa_cons (ae_lst (aa_cons ae_int (aa_cons ae_int (aa_cons ae_int aa_nil)))) aa_nil)) (npc (npc np0))) aa_nil)) (npc (npc np0)))) sc_law.nd) (ass_cons (as_set 6 (ae_fn o__law_space_entries hr (by rfl) (aa_cons (ae_var 4) (aa_cons (ae_var 5) aa_nil)) (npc (npc np0))) sc_law.nd) (ass_cons (as_if (at_not (at_tru (ae_fn o__law_same hr (by rfl) (aa_cons (ae_fn o_space_summary hr (by rfl) (aa_cons (ae_var 4) (aa_cons (ae_var 5) aa_nil)) (npc (npc np0))) (aa_cons (ae_var 6) aa_nil)) (npc (npc np0))))) (ass_one (as_ret ae_bl)) ass_nil) (ass_cons (as_for PassesOwn.never (ai_seq (ae_add (ae_var 3) (ae_lst (aa_cons ae_int (aa_cons (ae_fn o__law_take hr (by rfl) (aa_cons (ae_var 1) (aa_cons ae_int aa_nil)) (npc (npc np0))) aa_nil))))) (ag_n 7 sc_law.nd) (ass_one (as_if (at_not (at_tru (ae_fn o__law_same hr (by rfl) (aa_cons (ae_fn o_space_bounds hr (by rfl) (aa_cons (ae_var 6) (aa_cons (ae_var 5) (aa_cons (ae_var 7) aa_nil))) (npc (npc (npc np0)))) (aa_cons (ae_fn o__law_space_bounds hr (by rfl) (aa_cons (ae_var 6) (aa_cons (ae_var 5) (aa_cons (ae_var 7) aa_nil))) (npc (npc (npc np0)))) aa_nil)) (npc (npc np0))))) (ass_one (as_ret ae_bl)) ass_nil))) (ass_one (as_if (at_not (at_tru (ae_fn o__law_as_one hr (by rfl) (aa_cons (ae_fn o__law_long_plain hr (by rfl) (aa_cons (ae_var 1) (aa_cons (ae_var 3) aa_nil)) (npc (npc np0))) (aa_cons (ae_var 5) aa_nil)) (npc (npc np0))))) (ass_one (as_ret ae_bl)) ass_nil))))))))) (ass_cons (as_if (at_not (at_tru (ae_fn o__law_same hr (by rfl) (aa_cons (ae_fn o_space_summary hr (by rfl) (aa_cons (ae_tup (aa_cons (ae_tup (aa_cons ae_int (aa_cons ae_int aa_nil))) (aa_cons (ae_tup (aa_cons ae_int (aa_cons ae_int aa_nil))) (aa_cons (ae_tup (aa_cons ae_int (aa_cons ae_int aa_nil))) (aa_cons (ae_tup (aa_cons ae_int (aa_cons ae_int aa_nil))) aa_nil))))) (aa_cons ae_int aa_nil)) (npc (npc np0))) (aa_cons (ae_tup (aa_cons (ae_tup (aa_cons ae_int (aa_cons ae_int (aa_cons ae_int aa_nil)))) (aa_cons (ae_tup (aa_cons ae_int (aa_cons ae_int (aa_cons ae_int aa_nil)))) aa_nil))) aa_nil)) (npc (npc np0))))) (ass_one (as_ret ae_bl)) ass_nil) (ass_one (as_ret (ae_andV (ae_fn o__law_same hr (by rfl) (aa_cons (ae_fn o_space_summary hr (by rfl) (aa_cons (ae_tup aa_nil) (aa_cons ae_int aa_nil)) (npc (npc np0))) (aa_cons (ae_tup aa_nil) aa_nil)) (npc (npc np0))) (ae_one (ae_fn o__law_same hr (by rfl) (aa_cons (ae_fn o_space_bounds hr (by rfl) (aa_cons (ae_tup aa_nil) (aa_cons ae_int (aa_cons ae_int aa_nil))) (npc (npc (npc np0)))) (aa_cons (ae_tup (aa_cons ae_int (aa_cons ae_int aa_nil))) aa_nil)) (npc (npc np0))))))))))
end
end K06
namespace K06
noncomputable section
open PySem PySem.Spec PyProof.Rows L2 Zk Zk.Bb Zk.Bc Zk.Be
theorem pick_int (s : List Int) (ns : List Int) (h : ns ≠ []) : ∃ v ∈ ns, S_law_pick [dr s, .lst (ns.map D.int)] = some (.int v, 9, dr s.dropLast) := by
  refine ⟨pk s ns h, pk_mem, ?_⟩
  have := pick_eq (d := .lst (ns.map D.int)) (.inl rfl) s (by simpa using h) (by rw [pk_map (h := h)]; rfl)
  rw [pk_map (h := h)] at this
  exact this
theorem pl_E {L : Tb} (h : L.length ≤ 1000) : pl 7 (.tup (L.map eD3)) = true := by
  have h2 : L.length < 16777216 := by omega
  simp [pl, eD3, List.all_map, h2]
theorem law_true (ns : List Int) (hn : ns.length ≤ 63) : ∃ m o, m_law [.scr ns] = some (.bl true, m, o) := by
  have go : W (m_law [.scr ns]) fun r => ∃ m o, r = (.bl true, m, o) := by
    unfold m_law b_law
    rw [W_mDef]
    (refine Zk.W_seqK fun Kq hKq => ?_; simp (disch := first | assumption | (simp; done) | omega) [dem1, ent0_def]; refine ((draws_spec ns 700 (by decide) (by decide))).mono ?_; rintro _ ⟨s, rfl⟩; simp (disch := first | assumption | (simp; done) | omega) [dem1, ent0_def]; refine hKq _ ?_; clear hKq Kq)
    have r4 : rgOk 4 := ⟨by decide, by decide⟩
    (refine Zk.W_forN ?wE306 4 [2, 3, 4, 5, 6, 7] (fun (s : List Int) _ => [(1, some (dr s, 9))]) (fun _ _ => True) s ?wa306 ?wb306 ?_ ?_ ?_; (case wa306 => (simp (disch := first | assumption | (simp; done) | omega) [r4]; exact rfl)); (case wb306 => (simp (disch := first | assumption | (simp; done) | omega) [Zk.sets, r4])))
    · trivial
    · intro s i I' hi _ hI
      simp only [Zk.AllU, Zk.sets, List.set_cons_succ, List.set_cons_zero, List.set_nil] at *
      intro u2 u3 u4 u5 u6 u7
      refine W_tgV.mpr ⟨by simp, ?_⟩
      (refine Zk.W_seqK fun Kq hKq => ?_; simp (disch := first | assumption | (simp; done) | omega) [dem1, dem1]; refine ((many_keys_spec s)).mono ?_; rintro _ ⟨ks, s, rfl, k1, k2, k3⟩; simp (disch := first | assumption | (simp; done) | omega) [dem1, dem1]; refine hKq _ ?_; clear hKq Kq)
      (refine Zk.W_seqK fun Kq hKq => ?_; simp (disch := first | assumption | (simp; done) | omega) [dem1, dem1]; refine ((rising_stream_spec s ks k1)).mono ?_; rintro _ ⟨st, s, rfl, s1, s2⟩; simp (disch := first | assumption | (simp; done) | omega) [dem1, dem1]; refine hKq _ ?_; clear hKq Kq)
      obtain ⟨kk, kk1, kk2⟩ := pick_int s [2, 5, 13] (by decide)
      have kp : 0 < kk := by
        simp only [List.mem_cons, List.not_mem_nil, or_false] at kk1
        rcases kk1 with rfl | rfl | rfl <;> decide
      obtain ⟨v, ev, hv⟩ := dvN s.dropLast kk kp
      have kk2' : S_law_pick [dr s, .lst [.int 2, .int 5, .int 13]] = some (.int kk, 9, dr s.dropLast) := kk2
      have tk := take_eq s.dropLast kk kp
      (refine Zk.W_seqE (E1 := ?wE242) ?wa242 ?wb242; (case wa242 => (simp (disch := first | assumption | (simp; done) | omega) [kk2', tk, ev, uni, dem1, -W_pickL]; exact rfl)))
      generalize s.dropLast.dropLast = s
      have ist := imms_map' imm_pr st
      have hk1 : (1 : Int) ≤ 1 + (v : Int) := by omega
      have ew := entries_W s2 hk1
      have sw := space_W s2 hk1
      have tl := sumT_len (1 + (v : Int)) st
      have nd := sumT_nd (1 + (v : Int)) st
      have al : (asE (sumT (1 + (v : Int)) st)).length ≤ 1000 := by rw [(asE_perm nd).length_eq]; omega
      generalize asE (sumT (1 + (v : Int)) st) = L at *
      have iL : imms (L.map eD3) = true := imms_map' (fun _ => rfl) L
      (refine Zk.W_seqE (E1 := ?wE243) ?wa243 ?wb243; (case wa243 => (simp (disch := first | assumption | (simp; done) | omega) [ew, ist, iL, dem1]; exact rfl)))
      have ps := pl_E al
      (refine Zk.W_seqE (E1 := ?wE244) ?wa244 ?wb244; (case wa244 => (simp (disch := first | assumption | (simp; done) | omega) [sw, ist, iL, W_same ps, dem1]; exact rfl)))
      obtain ⟨x, ex, hx⟩ := dvN s 1001 (by decide)
      have ga := gAdd_li ks [0, (x : Int)] (by simp; omega)
      have ga' : gAdd [.lst (ks.map D.int), .lst [.int 0, .int (x : Int)]] = some (.lst ((ks ++ [0, (x : Int)]).map D.int), 9) := ga
      have ik : imms (ks.map D.int) = true := imms_map' (fun _ => rfl) _
      have tx := take_eq s 1001 (by decide)
      (refine Zk.W_forS ?wE309 (ks ++ [0, (x : Int)]) D.int [7] (fun (_ : Unit) _ => []) (fun _ _ => True) () ?wa309 ?wb309 ?_ ?_ ?_; (case wa309 => (simp (disch := first | assumption | (simp; done) | omega) [tx, ex, ga', ik, uni, dem1]; exact rfl)); (case wb309 => (simp (disch := first | assumption | (simp; done) | omega) [Zk.sets, tx, ex, ga', ik, uni, dem1])))
      · trivial
      · intro _ a key b I2 e _ hI2
        simp only [Zk.AllU, Zk.sets, List.set_cons_succ, List.set_cons_zero, List.set_nil] at *
        intro u7
        refine W_tgV.mpr ⟨by simp, ?_⟩
        have b1 := Be.bounds_W al hk1 key
        have b2 := Be.law_bounds_W al hk1 key
        have p2 : pl 7 (pr (bdE L (1 + (v : Int)) key)) = true := rfl
        simp (disch := first | assumption | (simp; done) | omega) [b1, b2, iL, W_same p2, dem1]
        apply hI2 () trivial
      intro _ _
      simp only [Zk.AllU, Zk.sets, List.set_cons_succ, List.set_cons_zero, List.set_nil] at *
      intro u7
      obtain ⟨_, lp, pns, s3, rfl, lp1, lp2⟩ := long_plain_spec s.dropLast ks k1
      have ao := as_one_W lp2 (k := v + 1) (by omega)
      have ev2 : ((v + 1 : Nat) : Int) = 1 + (v : Int) := by omega
      rw [ev2] at ao
      have ip : imms (pns.map D.int) = true := imms_map' (fun _ => rfl) _
      simp (disch := first | assumption | (simp; done) | omega) [lp, ao, ip, ik, uni, dem1]
      apply hI _ trivial
    intro s _
    simp only [Zk.AllU, Zk.sets, List.set_cons_succ, List.set_cons_zero, List.set_nil] at *
    intro u2 u3 u4 u5 u6 u7
    have w1 : S_space_summary [.tup [.tup [.int 4, .int 2], .tup [.int 1, .int 2], .tup [.int 7, .int 1], .tup [.int 4, .int 1]], .int 2] = some (.tup [.tup [.int 4, .int 3, .int 0], .tup [.int 7, .int 3, .int 2]], 9, .non) := by
      have := space_W (st := [(4, 2), (1, 2), (7, 1), (4, 1)]) (by decide) (k := 2) (by decide)
      have e : asE (sumT 2 [(4, 2), (1, 2), (7, 1), (4, 1)]) = [(4, 3, 0), (7, 3, 2)] := by
        unfold asE
        rw [srt_isrt]
        decide +kernel
      rw [e] at this
      exact this
    have w2 : S_space_summary [.tup [], .int 2] = some (.tup [], 9, .non) := (by
      have := space_W (st := []) (by decide) (k := 2) (by decide)
      have e : asE (sumT 2 []) = [] := by
        unfold asE
        rw [srt_isrt]
        decide +kernel
      rw [e] at this
      exact this)
    have w3 : S_space_bounds [.tup [], .int 1, .int 3] = some (.tup [.int 0, .int 0], 0, .non) := Be.bounds_W (L := []) (by decide) (by decide) 3
    have p1 : pl 7 (.tup [.tup [.int 4, .int 3, .int 0], .tup [.int 7, .int 3, .int 2]]) = true := rfl
    have p2 : pl 7 (.tup []) = true := rfl
    have p3 : pl 7 (.tup [.int 0, .int 0]) = true := rfl
    (refine Zk.W_seqE (E1 := ?wE245) ?wa245 ?wb245; (case wa245 => (simp (disch := first | assumption | (simp; done) | omega) [w1, W_same p1, dem1]; exact rfl)))
    simp (disch := first | assumption | (simp; done) | omega) [w2, w3, W_same p2, W_same p3, dem1]
  obtain ⟨r, e, m, o, rfl⟩ := go
  exact ⟨m, o, e⟩
end
end K06
namespace K06
noncomputable section
open PySem PySem.Spec PyProof.Rows L2 Zk
set_option maxHeartbeats 0 in
theorem all_mk {l : PySem.W.OpenLaw} {w : World} {K : PySem.W.Frag} {h : Heap} {mg : Str → Option Value} {fa : Addr} (X : K.In h) (G : h.Ns mainGlobals mg) (hfa : mg "law" = some (.ref fa))
    {f0 : Addr} {od0 an0 : Option Addr} {sl0 : Array (Option Value)} {oc0 kV0 dc0 pm0 cd0 ct0 : Value}
    (a0 : PySem.W.nsIn K mainGlobals "_law_draws" = some (some (.ref f0))) (l0 : K.lookup f0 = some ⟨oc0, od0, .func (PySem.W.fnOf "_law_draws" "_law_draws" (defArgs s__law_draws) (defBody s__law_draws) (defScope s__law_draws) .none kV0 dc0 pm0 an0 cd0 ct0), sl0⟩) (c0 : PySem.W.codeIn K cd0 "_law_draws" = true) (k0 : PySem.W.keepIn K (.ref f0) = true)
    {f1 : Addr} {od1 an1 : Option Addr} {sl1 : Array (Option Value)} {oc1 kV1 dc1 pm1 cd1 ct1 : Value}
    (a1 : PySem.W.nsIn K mainGlobals "_law_take" = some (some (.ref f1))) (l1 : K.lookup f1 = some ⟨oc1, od1, .func (PySem.W.fnOf "_law_take" "_law_take" (defArgs s__law_take) (defBody s__law_take) (defScope s__law_take) .none kV1 dc1 pm1 an1 cd1 ct1), sl1⟩) (c1 : PySem.W.codeIn K cd1 "_law_take" = true) (k1 : PySem.W.keepIn K (.ref f1) = true)
    {f2 : Addr} {od2 an2 : Option Addr} {sl2 : Array (Option Value)} {oc2 kV2 dc2 pm2 cd2 ct2 : Value}
    (a2 : PySem.W.nsIn K mainGlobals "_law_many_keys" = some (some (.ref f2))) (l2 : K.lookup f2 = some ⟨oc2, od2, .func (PySem.W.fnOf "_law_many_keys" "_law_many_keys" (defArgs s__law_many_keys) (defBody s__law_many_keys) (defScope s__law_many_keys) .none kV2 dc2 pm2 an2 cd2 ct2), sl2⟩) (c2 : PySem.W.codeIn K cd2 "_law_many_keys" = true) (k2 : PySem.W.keepIn K (.ref f2) = true)
    {f3 : Addr} {od3 an3 : Option Addr} {sl3 : Array (Option Value)} {oc3 kV3 dc3 pm3 cd3 ct3 : Value}
    (a3 : PySem.W.nsIn K mainGlobals "_law_units" = some (some (.ref f3))) (l3 : K.lookup f3 = some ⟨oc3, od3, .func (PySem.W.fnOf "_law_units" "_law_units" (defArgs s__law_units) (defBody s__law_units) (defScope s__law_units) .none kV3 dc3 pm3 an3 cd3 ct3), sl3⟩) (c3 : PySem.W.codeIn K cd3 "_law_units" = true) (k3 : PySem.W.keepIn K (.ref f3) = true)
    {f4 : Addr} {od4 an4 : Option Addr} {sl4 : Array (Option Value)} {oc4 kV4 dc4 pm4 cd4 ct4 : Value}
    (a4 : PySem.W.nsIn K mainGlobals "_law_pick" = some (some (.ref f4))) (l4 : K.lookup f4 = some ⟨oc4, od4, .func (PySem.W.fnOf "_law_pick" "_law_pick" (defArgs s__law_pick) (defBody s__law_pick) (defScope s__law_pick) .none kV4 dc4 pm4 an4 cd4 ct4), sl4⟩) (c4 : PySem.W.codeIn K cd4 "_law_pick" = true) (k4 : PySem.W.keepIn K (.ref f4) = true)
    {f5 : Addr} {od5 an5 : Option Addr} {sl5 : Array (Option Value)} {oc5 kV5 dc5 pm5 cd5 ct5 : Value}
    (a5 : PySem.W.nsIn K mainGlobals "_law_plain" = some (some (.ref f5))) (l5 : K.lookup f5 = some ⟨oc5, od5, .func (PySem.W.fnOf "_law_plain" "_law_plain" (defArgs s__law_plain) (defBody s__law_plain) (defScope s__law_plain) .none kV5 dc5 pm5 an5 cd5 ct5), sl5⟩) (c5 : PySem.W.codeIn K cd5 "_law_plain" = true) (k5 : PySem.W.keepIn K (.ref f5) = true)
    {f6 : Addr} {od6 an6 : Option Addr} {sl6 : Array (Option Value)} {oc6 kV6 dc6 pm6 cd6 ct6 : Value}
    (a6 : PySem.W.nsIn K mainGlobals "_law_long_plain" = some (some (.ref f6))) (l6 : K.lookup f6 = some ⟨oc6, od6, .func (PySem.W.fnOf "_law_long_plain" "_law_long_plain" (defArgs s__law_long_plain) (defBody s__law_long_plain) (defScope s__law_long_plain) .none kV6 dc6 pm6 an6 cd6 ct6), sl6⟩) (c6 : PySem.W.codeIn K cd6 "_law_long_plain" = true) (k6 : PySem.W.keepIn K (.ref f6) = true)
    {f7 : Addr} {od7 an7 : Option Addr} {sl7 : Array (Option Value)} {oc7 kV7 dc7 pm7 cd7 ct7 : Value}
    (a7 : PySem.W.nsIn K mainGlobals "_law_count" = some (some (.ref f7))) (l7 : K.lookup f7 = some ⟨oc7, od7, .func (PySem.W.fnOf "_law_count" "_law_count" (defArgs s__law_count) (defBody s__law_count) (defScope s__law_count) .none kV7 dc7 pm7 an7 cd7 ct7), sl7⟩) (c7 : PySem.W.codeIn K cd7 "_law_count" = true) (k7 : PySem.W.keepIn K (.ref f7) = true)
    {f8 : Addr} {od8 an8 : Option Addr} {sl8 : Array (Option Value)} {oc8 kV8 dc8 pm8 cd8 ct8 : Value}
    (a8 : PySem.W.nsIn K mainGlobals "_law_rising" = some (some (.ref f8))) (l8 : K.lookup f8 = some ⟨oc8, od8, .func (PySem.W.fnOf "_law_rising" "_law_rising" (defArgs s__law_rising) (defBody s__law_rising) (defScope s__law_rising) .none kV8 dc8 pm8 an8 cd8 ct8), sl8⟩) (c8 : PySem.W.codeIn K cd8 "_law_rising" = true) (k8 : PySem.W.keepIn K (.ref f8) = true)
    {f9 : Addr} {od9 an9 : Option Addr} {sl9 : Array (Option Value)} {oc9 kV9 dc9 pm9 cd9 ct9 : Value}
    (a9 : PySem.W.nsIn K mainGlobals "_law_rising_stream" = some (some (.ref f9))) (l9 : K.lookup f9 = some ⟨oc9, od9, .func (PySem.W.fnOf "_law_rising_stream" "_law_rising_stream" (defArgs s__law_rising_stream) (defBody s__law_rising_stream) (defScope s__law_rising_stream) .none kV9 dc9 pm9 an9 cd9 ct9), sl9⟩) (c9 : PySem.W.codeIn K cd9 "_law_rising_stream" = true) (k9 : PySem.W.keepIn K (.ref f9) = true)
    {f10 : Addr} {od10 an10 : Option Addr} {sl10 : Array (Option Value)} {oc10 kV10 dc10 pm10 cd10 ct10 : Value}
    (a10 : PySem.W.nsIn K mainGlobals "_law_space_entries" = some (some (.ref f10))) (l10 : K.lookup f10 = some ⟨oc10, od10, .func (PySem.W.fnOf "_law_space_entries" "_law_space_entries" (defArgs s__law_space_entries) (defBody s__law_space_entries) (defScope s__law_space_entries) .none kV10 dc10 pm10 an10 cd10 ct10), sl10⟩) (c10 : PySem.W.codeIn K cd10 "_law_space_entries" = true) (k10 : PySem.W.keepIn K (.ref f10) = true)
    {f11 : Addr} {od11 an11 : Option Addr} {sl11 : Array (Option Value)} {oc11 kV11 dc11 pm11 cd11 ct11 : Value}
    (a11 : PySem.W.nsIn K mainGlobals "_law_same" = some (some (.ref f11))) (l11 : K.lookup f11 = some ⟨oc11, od11, .func (PySem.W.fnOf "_law_same" "_law_same" (defArgs s__law_same) (defBody s__law_same) (defScope s__law_same) .none kV11 dc11 pm11 an11 cd11 ct11), sl11⟩) (c11 : PySem.W.codeIn K cd11 "_law_same" = true) (k11 : PySem.W.keepIn K (.ref f11) = true)
    {f12 : Addr} {od12 an12 : Option Addr} {sl12 : Array (Option Value)} {oc12 kV12 dc12 pm12 cd12 ct12 : Value}
    (a12 : PySem.W.nsIn K mainGlobals "least_entry" = some (some (.ref f12))) (l12 : K.lookup f12 = some ⟨oc12, od12, .func (PySem.W.fnOf "least_entry" "least_entry" (defArgs s_least_entry) (defBody s_least_entry) (defScope s_least_entry) .none kV12 dc12 pm12 an12 cd12 ct12), sl12⟩) (c12 : PySem.W.codeIn K cd12 "least_entry" = true) (k12 : PySem.W.keepIn K (.ref f12) = true)
    {f13 : Addr} {od13 an13 : Option Addr} {sl13 : Array (Option Value)} {oc13 kV13 dc13 pm13 cd13 ct13 : Value}
    (a13 : PySem.W.nsIn K mainGlobals "space_summary" = some (some (.ref f13))) (l13 : K.lookup f13 = some ⟨oc13, od13, .func (PySem.W.fnOf "space_summary" "space_summary" (defArgs s_space_summary) (defBody s_space_summary) (defScope s_space_summary) .none kV13 dc13 pm13 an13 cd13 ct13), sl13⟩) (c13 : PySem.W.codeIn K cd13 "space_summary" = true) (k13 : PySem.W.keepIn K (.ref f13) = true)
    {f14 : Addr} {od14 an14 : Option Addr} {sl14 : Array (Option Value)} {oc14 kV14 dc14 pm14 cd14 ct14 : Value}
    (a14 : PySem.W.nsIn K mainGlobals "_law_space_bounds" = some (some (.ref f14))) (l14 : K.lookup f14 = some ⟨oc14, od14, .func (PySem.W.fnOf "_law_space_bounds" "_law_space_bounds" (defArgs s__law_space_bounds) (defBody s__law_space_bounds) (defScope s__law_space_bounds) .none kV14 dc14 pm14 an14 cd14 ct14), sl14⟩) (c14 : PySem.W.codeIn K cd14 "_law_space_bounds" = true) (k14 : PySem.W.keepIn K (.ref f14) = true)
    {f15 : Addr} {od15 an15 : Option Addr} {sl15 : Array (Option Value)} {oc15 kV15 dc15 pm15 cd15 ct15 : Value}
    (a15 : PySem.W.nsIn K mainGlobals "space_bounds" = some (some (.ref f15))) (l15 : K.lookup f15 = some ⟨oc15, od15, .func (PySem.W.fnOf "space_bounds" "space_bounds" (defArgs s_space_bounds) (defBody s_space_bounds) (defScope s_space_bounds) .none kV15 dc15 pm15 an15 cd15 ct15), sl15⟩) (c15 : PySem.W.codeIn K cd15 "space_bounds" = true) (k15 : PySem.W.keepIn K (.ref f15) = true)
    {f16 : Addr} {od16 an16 : Option Addr} {sl16 : Array (Option Value)} {oc16 kV16 dc16 pm16 cd16 ct16 : Value}
    (a16 : PySem.W.nsIn K mainGlobals "_law_cancelled" = some (some (.ref f16))) (l16 : K.lookup f16 = some ⟨oc16, od16, .func (PySem.W.fnOf "_law_cancelled" "_law_cancelled" (defArgs s__law_cancelled) (defBody s__law_cancelled) (defScope s__law_cancelled) .none kV16 dc16 pm16 an16 cd16 ct16), sl16⟩) (c16 : PySem.W.codeIn K cd16 "_law_cancelled" = true) (k16 : PySem.W.keepIn K (.ref f16) = true)
    {f17 : Addr} {od17 an17 : Option Addr} {sl17 : Array (Option Value)} {oc17 kV17 dc17 pm17 cd17 ct17 : Value}
    (a17 : PySem.W.nsIn K mainGlobals "lowered" = some (some (.ref f17))) (l17 : K.lookup f17 = some ⟨oc17, od17, .func (PySem.W.fnOf "lowered" "lowered" (defArgs s_lowered) (defBody s_lowered) (defScope s_lowered) .none kV17 dc17 pm17 an17 cd17 ct17), sl17⟩) (c17 : PySem.W.codeIn K cd17 "lowered" = true) (k17 : PySem.W.keepIn K (.ref f17) = true)
    {f18 : Addr} {od18 an18 : Option Addr} {sl18 : Array (Option Value)} {oc18 kV18 dc18 pm18 cd18 ct18 : Value}
    (a18 : PySem.W.nsIn K mainGlobals "as_counts" = some (some (.ref f18))) (l18 : K.lookup f18 = some ⟨oc18, od18, .func (PySem.W.fnOf "as_counts" "as_counts" (defArgs s_as_counts) (defBody s_as_counts) (defScope s_as_counts) .none kV18 dc18 pm18 an18 cd18 ct18), sl18⟩) (c18 : PySem.W.codeIn K cd18 "as_counts" = true) (k18 : PySem.W.keepIn K (.ref f18) = true)
    {f19 : Addr} {od19 an19 : Option Addr} {sl19 : Array (Option Value)} {oc19 kV19 dc19 pm19 cd19 ct19 : Value}
    (a19 : PySem.W.nsIn K mainGlobals "counter_summary" = some (some (.ref f19))) (l19 : K.lookup f19 = some ⟨oc19, od19, .func (PySem.W.fnOf "counter_summary" "counter_summary" (defArgs s_counter_summary) (defBody s_counter_summary) (defScope s_counter_summary) .none kV19 dc19 pm19 an19 cd19 ct19), sl19⟩) (c19 : PySem.W.codeIn K cd19 "counter_summary" = true) (k19 : PySem.W.keepIn K (.ref f19) = true)
    {f20 : Addr} {od20 an20 : Option Addr} {sl20 : Array (Option Value)} {oc20 kV20 dc20 pm20 cd20 ct20 : Value}
    (a20 : PySem.W.nsIn K mainGlobals "_law_as_one" = some (some (.ref f20))) (l20 : K.lookup f20 = some ⟨oc20, od20, .func (PySem.W.fnOf "_law_as_one" "_law_as_one" (defArgs s__law_as_one) (defBody s__law_as_one) (defScope s__law_as_one) .none kV20 dc20 pm20 an20 cd20 ct20), sl20⟩) (c20 : PySem.W.codeIn K cd20 "_law_as_one" = true) (k20 : PySem.W.keepIn K (.ref f20) = true)
    {f21 : Addr} {od21 an21 : Option Addr} {sl21 : Array (Option Value)} {oc21 kV21 dc21 pm21 cd21 ct21 : Value}
    (a21 : PySem.W.nsIn K mainGlobals "law" = some (some (.ref f21))) (l21 : K.lookup f21 = some ⟨oc21, od21, .func (PySem.W.fnOf "law" "law" (defArgs s_law) (defBody s_law) (defScope s_law) .none kV21 dc21 pm21 an21 cd21 ct21), sl21⟩) (c21 : PySem.W.codeIn K cd21 "law" = true) (k21 : PySem.W.keepIn K (.ref f21) = true)
    (y_int : PySem.W.nsIn K mainGlobals "int" = some none)
    (y_len : PySem.W.nsIn K mainGlobals "len" = some none)
    (y_list : PySem.W.nsIn K mainGlobals "list" = some none)
    (y_range : PySem.W.nsIn K mainGlobals "range" = some none)
    (y_tuple : PySem.W.nsIn K mainGlobals "tuple" = some none)
    (y_min : PySem.W.nsIn K mainGlobals "min" = some none)
    (y_sorted : PySem.W.nsIn K mainGlobals "sorted" = some none)
    (y_isinstance : PySem.W.nsIn K mainGlobals "isinstance" = some none)
    (y_bool : PySem.W.nsIn K mainGlobals "bool" = some none)
    (y_str : PySem.W.nsIn K mainGlobals "str" = some none)
    : ∃ fd : FuncData, (∀ (s : Shared) (v : Value), BindsTo s fd ⟨[v], []⟩ [("script", v)]) ∧ ∀ base : Heap, K.In base → base.Ns mainGlobals mg → FnOk l.prog w K mg base CX0 9 fa fd ["script"] (spM K none 1 m_law) := by
  have e := hfa.symm.trans (PySem.W.mg_of X G a21)
  cases e
  have F0 := fun_mk (st := s__law_draws) l0 c0 k0
  have F1 := fun_mk (st := s__law_take) l1 c1 k1
  have F2 := fun_mk (st := s__law_many_keys) l2 c2 k2
  have F3 := fun_mk (st := s__law_units) l3 c3 k3
  have F4 := fun_mk (st := s__law_pick) l4 c4 k4
  have F5 := fun_mk (st := s__law_plain) l5 c5 k5
  have F6 := fun_mk (st := s__law_long_plain) l6 c6 k6
  have F7 := fun_mk (st := s__law_count) l7 c7 k7
  have F8 := fun_mk (st := s__law_rising) l8 c8 k8
  have F9 := fun_mk (st := s__law_rising_stream) l9 c9 k9
  have F10 := fun_mk (st := s__law_space_entries) l10 c10 k10
  have F11 := fun_mk (st := s__law_same) l11 c11 k11
  have F12 := fun_mk (st := s_least_entry) l12 c12 k12
  have F13 := fun_mk (st := s_space_summary) l13 c13 k13
  have F14 := fun_mk (st := s__law_space_bounds) l14 c14 k14
  have F15 := fun_mk (st := s_space_bounds) l15 c15 k15
  have F16 := fun_mk (st := s__law_cancelled) l16 c16 k16
  have F17 := fun_mk (st := s_lowered) l17 c17 k17
  have F18 := fun_mk (st := s_as_counts) l18 c18 k18
  have F19 := fun_mk (st := s_counter_summary) l19 c19 k19
  have F20 := fun_mk (st := s__law_as_one) l20 c20 k20
  have F21 := fun_mk (st := s_law) l21 c21 k21
  have b0 := F0.binds (ps := ["script", "many"]) fun _ _ _ _ _ _ us hl => match us, hl with | [_, _], _ => rfl
  have b1 := F1.binds (ps := ["draws", "many"]) fun _ _ _ _ _ _ us hl => match us, hl with | [_, _], _ => rfl
  have b2 := F2.binds (ps := ["draws"]) fun _ _ _ _ _ _ us hl => match us, hl with | [_], _ => rfl
  have b3 := F3.binds (ps := ["plain"]) fun _ _ _ _ _ _ us hl => match us, hl with | [_], _ => rfl
  have b4 := F4.binds (ps := ["draws", "row"]) fun _ _ _ _ _ _ us hl => match us, hl with | [_, _], _ => rfl
  have b5 := F5.binds (ps := ["draws", "keys", "many"]) fun _ _ _ _ _ _ us hl => match us, hl with | [_, _, _], _ => rfl
  have b6 := F6.binds (ps := ["draws", "keys"]) fun _ _ _ _ _ _ us hl => match us, hl with | [_, _], _ => rfl
  have b7 := F7.binds (ps := ["draws"]) fun _ _ _ _ _ _ us hl => match us, hl with | [_], _ => rfl
  have b8 := F8.binds (ps := ["draws", "keys", "many"]) fun _ _ _ _ _ _ us hl => match us, hl with | [_, _, _], _ => rfl
  have b9 := F9.binds (ps := ["draws", "keys"]) fun _ _ _ _ _ _ us hl => match us, hl with | [_, _], _ => rfl
  have b10 := F10.binds (ps := ["stream", "k"]) fun _ _ _ _ _ _ us hl => match us, hl with | [_, _], _ => rfl
  have b11 := F11.binds (ps := ["actual", "due"]) fun _ _ _ _ _ _ us hl => match us, hl with | [_, _], _ => rfl
  have b12 := F12.binds (ps := ["table"]) fun _ _ _ _ _ _ us hl => match us, hl with | [_], _ => rfl
  have b13 := F13.binds (ps := ["stream", "k"]) fun _ _ _ _ _ _ us hl => match us, hl with | [_, _], _ => rfl
  have b14 := F14.binds (ps := ["entries", "k", "key"]) fun _ _ _ _ _ _ us hl => match us, hl with | [_, _, _], _ => rfl
  have b15 := F15.binds (ps := ["entries", "k", "key"]) fun _ _ _ _ _ _ us hl => match us, hl with | [_, _, _], _ => rfl
  have b16 := F16.binds (ps := ["stream", "k"]) fun _ _ _ _ _ _ us hl => match us, hl with | [_, _], _ => rfl
  have b17 := F17.binds (ps := ["table", "amount"]) fun _ _ _ _ _ _ us hl => match us, hl with | [_, _], _ => rfl
  have b18 := F18.binds (ps := ["table"]) fun _ _ _ _ _ _ us hl => match us, hl with | [_], _ => rfl
  have b19 := F19.binds (ps := ["stream", "k"]) fun _ _ _ _ _ _ us hl => match us, hl with | [_, _], _ => rfl
  have b20 := F20.binds (ps := ["plain", "k"]) fun _ _ _ _ _ _ us hl => match us, hl with | [_, _], _ => rfl
  have z_int := PySem.W.mg_none_of X G y_int
  have z_len := PySem.W.mg_none_of X G y_len
  have z_list := PySem.W.mg_none_of X G y_list
  have z_range := PySem.W.mg_none_of X G y_range
  have z_tuple := PySem.W.mg_none_of X G y_tuple
  have z_min := PySem.W.mg_none_of X G y_min
  have z_sorted := PySem.W.mg_none_of X G y_sorted
  have z_isinstance := PySem.W.mg_none_of X G y_isinstance
  have z_bool := PySem.W.mg_none_of X G y_bool
  have z_str := PySem.W.mg_none_of X G y_str
  refine ⟨PySem.W.fnOf "law" "law" (defArgs s_law) (defBody s_law) (defScope s_law) .none kV21 dc21 pm21 an21 cd21 ct21, fun s v => .of_eq rfl, fun base _ _ => ?_⟩
  have o__law_draws : Ok l.prog w K mg base 1 "_law_draws" ["script", "many"] none 2 m__law_draws := ⟨f0, _, ok__law_draws z_int z_len z_list z_range F0, PySem.W.mg_of X G a0, F0.kp, b0⟩
  have o__law_take : Ok l.prog w K mg base 1 "_law_take" ["draws", "many"] (some 0) 2 m__law_take := ⟨f1, _, ok__law_take z_len z_int F1, PySem.W.mg_of X G a1, F1.kp, b1⟩
  have o__law_many_keys : Ok l.prog w K mg base 2 "_law_many_keys" ["draws"] (some 0) 1 m__law_many_keys := ⟨f2, _, ok__law_many_keys z_range (o__law_take.mono (by decide)) F2, PySem.W.mg_of X G a2, F2.kp, b2⟩
  have o__law_units : Ok l.prog w K mg base 1 "_law_units" ["plain"] none 1 m__law_units := ⟨f3, _, ok__law_units z_tuple F3, PySem.W.mg_of X G a3, F3.kp, b3⟩
  have o__law_pick : Ok l.prog w K mg base 2 "_law_pick" ["draws", "row"] (some 0) 2 m__law_pick := ⟨f4, _, ok__law_pick z_len (o__law_take.mono (by decide)) F4, PySem.W.mg_of X G a4, F4.kp, b4⟩
  have o__law_plain : Ok l.prog w K mg base 3 "_law_plain" ["draws", "keys", "many"] (some 0) 3 m__law_plain := ⟨f5, _, ok__law_plain z_range z_tuple (o__law_take.mono (by decide)) (o__law_pick.mono (by decide)) F5, PySem.W.mg_of X G a5, F5.kp, b5⟩
  have o__law_long_plain : Ok l.prog w K mg base 4 "_law_long_plain" ["draws", "keys"] (some 0) 2 m__law_long_plain := ⟨f6, _, ok__law_long_plain z_len (o__law_plain.mono (by decide)) (o__law_take.mono (by decide)) F6, PySem.W.mg_of X G a6, F6.kp, b6⟩
  have o__law_count : Ok l.prog w K mg base 3 "_law_count" ["draws"] (some 0) 1 m__law_count := ⟨f7, _, ok__law_count (o__law_take.mono (by decide)) (o__law_pick.mono (by decide)) F7, PySem.W.mg_of X G a7, F7.kp, b7⟩
  have o__law_rising : Ok l.prog w K mg base 4 "_law_rising" ["draws", "keys", "many"] (some 0) 3 m__law_rising := ⟨f8, _, ok__law_rising z_range z_tuple (o__law_take.mono (by decide)) (o__law_count.mono (by decide)) (o__law_pick.mono (by decide)) F8, PySem.W.mg_of X G a8, F8.kp, b8⟩
  have o__law_rising_stream : Ok l.prog w K mg base 5 "_law_rising_stream" ["draws", "keys"] (some 0) 2 m__law_rising_stream := ⟨f9, _, ok__law_rising_stream z_range z_tuple (o__law_take.mono (by decide)) (o__law_units.mono (by decide)) (o__law_long_plain.mono (by decide)) (o__law_rising.mono (by decide)) (o__law_pick.mono (by decide)) F9, PySem.W.mg_of X G a9, F9.kp, b9⟩
  have o__law_space_entries : Ok l.prog w K mg base 1 "_law_space_entries" ["stream", "k"] none 2 m__law_space_entries := ⟨f10, _, ok__law_space_entries z_len z_min z_sorted z_tuple F10, PySem.W.mg_of X G a10, F10.kp, b10⟩
  have o__law_same : Ok l.prog w K mg base 8 "_law_same" ["actual", "due"] none 2 (m__law_same 8) := ⟨f11, _, ok__law_same z_list z_tuple z_isinstance z_len z_range z_bool z_int z_str F11 (PySem.W.mg_of X G a11) b11 8, PySem.W.mg_of X G a11, F11.kp, b11⟩
  have o_least_entry : Ok l.prog w K mg base 1 "least_entry" ["table"] none 1 m_least_entry := ⟨f12, _, ok_least_entry z_min F12, PySem.W.mg_of X G a12, F12.kp, b12⟩
  have o_space_summary : Ok l.prog w K mg base 2 "space_summary" ["stream", "k"] none 2 m_space_summary := ⟨f13, _, ok_space_summary z_len z_sorted z_tuple (o_least_entry.mono (by decide)) F13, PySem.W.mg_of X G a13, F13.kp, b13⟩
  have o__law_space_bounds : Ok l.prog w K mg base 1 "_law_space_bounds" ["entries", "k", "key"] none 3 m__law_space_bounds := ⟨f14, _, ok__law_space_bounds z_len z_min F14, PySem.W.mg_of X G a14, F14.kp, b14⟩
  have o_space_bounds : Ok l.prog w K mg base 1 "space_bounds" ["entries", "k", "key"] none 3 m_space_bounds := ⟨f15, _, ok_space_bounds z_len z_min F15, PySem.W.mg_of X G a15, F15.kp, b15⟩
  have o__law_cancelled : Ok l.prog w K mg base 1 "_law_cancelled" ["stream", "k"] none 2 m__law_cancelled := ⟨f16, _, ok__law_cancelled z_len z_min z_sorted z_tuple F16, PySem.W.mg_of X G a16, F16.kp, b16⟩
  have o_lowered : Ok l.prog w K mg base 1 "lowered" ["table", "amount"] none 2 m_lowered := ⟨f17, _, ok_lowered  F17, PySem.W.mg_of X G a17, F17.kp, b17⟩
  have o_as_counts : Ok l.prog w K mg base 1 "as_counts" ["table"] none 1 m_as_counts := ⟨f18, _, ok_as_counts z_sorted z_tuple F18, PySem.W.mg_of X G a18, F18.kp, b18⟩
  have o_counter_summary : Ok l.prog w K mg base 2 "counter_summary" ["stream", "k"] none 2 m_counter_summary := ⟨f19, _, ok_counter_summary z_len z_list z_min (o_lowered.mono (by decide)) (o_as_counts.mono (by decide)) F19, PySem.W.mg_of X G a19, F19.kp, b19⟩
  have o__law_as_one : Ok l.prog w K mg base 3 "_law_as_one" ["plain", "k"] none 2 m__law_as_one := ⟨f20, _, ok__law_as_one z_len z_min z_sorted (o__law_units.mono (by decide)) (o_space_summary.mono (by decide)) (o__law_cancelled.mono (by decide)) (o_counter_summary.mono (by decide)) F20, PySem.W.mg_of X G a20, F20.kp, b20⟩
  exact ok_law z_range (o__law_draws.mono (by decide)) (o__law_many_keys.mono (by decide)) (o__law_rising_stream.mono (by decide)) (o__law_take.mono (by decide)) (o__law_pick.mono (by decide)) (o__law_space_entries.mono (by decide)) (o__law_same.mono (by decide)) (o_space_summary.mono (by decide)) (o__law_space_bounds.mono (by decide)) (o_space_bounds.mono (by decide)) (o__law_as_one.mono (by decide)) (o__law_long_plain.mono (by decide)) F21
end
end K06
open PySem PySem.W PyProof.Rows
set_option maxHeartbeats 0 in
theorem PySem.Challenge.cw_sketchkeep_k06_space_summaries_holds : PySem.Challenge.rw_sketchkeep_k06_space_summaries.Holds := by
  w_on; o_law; k_head; (case hw => w_witness2)
  k_fill
  refine L2.walk_of (l := PySem.Challenge.rw_sketchkeep_k06_space_summaries) (n := 63) (k := 9) (x := "script") (CX := fun _ => L2.CX0) (sp := fun w => Zk.spM _ none 1 K06.m_law) rfl (by decide) rfl ⟨rfl, by decide, by decide⟩ (fun w h Y => PySem.W.kIn_of Y) ?F (fun _ _ a ns hl hO hS => Zk.law_sp (fun ns hl => K06.law_true ns hl) hl hO hS) (fun _ _ _ _ _ h => h)
  case F =>
    intro w mg fa h KX G hmg
    refine' K06.all_mk KX G hmg ?a0 ?l0 ?c0 ?k0 ?a1 ?l1 ?c1 ?k1 ?a2 ?l2 ?c2 ?k2 ?a3 ?l3 ?c3 ?k3 ?a4 ?l4 ?c4 ?k4 ?a5 ?l5 ?c5 ?k5 ?a6 ?l6 ?c6 ?k6 ?a7 ?l7 ?c7 ?k7 ?a8 ?l8 ?c8 ?k8 ?a9 ?l9 ?c9 ?k9 ?a10 ?l10 ?c10 ?k10 ?a11 ?l11 ?c11 ?k11 ?a12 ?l12 ?c12 ?k12 ?a13 ?l13 ?c13 ?k13 ?a14 ?l14 ?c14 ?k14 ?a15 ?l15 ?c15 ?k15 ?a16 ?l16 ?c16 ?k16 ?a17 ?l17 ?c17 ?k17 ?a18 ?l18 ?c18 ?k18 ?a19 ?l19 ?c19 ?k19 ?a20 ?l20 ?c20 ?k20 ?a21 ?l21 ?c21 ?k21 ?y_int ?y_len ?y_list ?y_range ?y_tuple ?y_min ?y_sorted ?y_isinstance ?y_bool ?y_str
    (case a0 => k_is); (case l0 => k_is); (case c0 => k_is); (case k0 => k_is); (case a1 => k_is); (case l1 => k_is); (case c1 => k_is); (case k1 => k_is); (case a2 => k_is); (case l2 => k_is); (case c2 => k_is); (case k2 => k_is); (case a3 => k_is); (case l3 => k_is); (case c3 => k_is); (case k3 => k_is); (case a4 => k_is); (case l4 => k_is); (case c4 => k_is); (case k4 => k_is); (case a5 => k_is); (case l5 => k_is); (case c5 => k_is); (case k5 => k_is); (case a6 => k_is); (case l6 => k_is); (case c6 => k_is); (case k6 => k_is); (case a7 => k_is); (case l7 => k_is); (case c7 => k_is); (case k7 => k_is); (case a8 => k_is); (case l8 => k_is); (case c8 => k_is); (case k8 => k_is); (case a9 => k_is); (case l9 => k_is); (case c9 => k_is); (case k9 => k_is); (case a10 => k_is); (case l10 => k_is); (case c10 => k_is); (case k10 => k_is); (case a11 => k_is); (case l11 => k_is); (case c11 => k_is); (case k11 => k_is); (case a12 => k_is); (case l12 => k_is); (case c12 => k_is); (case k12 => k_is); (case a13 => k_is); (case l13 => k_is); (case c13 => k_is); (case k13 => k_is); (case a14 => k_is); (case l14 => k_is); (case c14 => k_is); (case k14 => k_is); (case a15 => k_is); (case l15 => k_is); (case c15 => k_is); (case k15 => k_is); (case a16 => k_is); (case l16 => k_is); (case c16 => k_is); (case k16 => k_is); (case a17 => k_is); (case l17 => k_is); (case c17 => k_is); (case k17 => k_is); (case a18 => k_is); (case l18 => k_is); (case c18 => k_is); (case k18 => k_is); (case a19 => k_is); (case l19 => k_is); (case c19 => k_is); (case k19 => k_is); (case a20 => k_is); (case l20 => k_is); (case c20 => k_is); (case k20 => k_is); (case a21 => k_is); (case l21 => k_is); (case c21 => k_is); (case k21 => k_is); (case y_int => k_is); (case y_len => k_is); (case y_list => k_is); (case y_range => k_is); (case y_tuple => k_is); (case y_min => k_is); (case y_sorted => k_is); (case y_isinstance => k_is); (case y_bool => k_is); (case y_str => k_is)

