import PyProof.Rows.All
import Wide.All
import OpenK.AllK
import Wide.FinOn
import HandS.ForMost
import HandS.Deep
import HandS.Walk
import HandS.TupMul
import HandS.TupAny
import HandS.Wide
import HandS.WideBits
import HandS.SortInts
import HandS.TupLe
import HandS.Flow
import HandS.Conv
import HandS.IsInst
import HandS.Small
import HandS.Style
import HandS.NoneIn
import HandS.SortRule
import HandS.More
import KE.GoesMore
import HandS.Zip
import HandS.Rev
import HandS.Gcd
import HandS.SetFor
import HandS.DictComp
import KE.BitLaws
import HandS.SortKw
import HandS.SetBool
import HandS.Strs
import KE.DataMinMax
import HandS.TupSets
import KE.KDictList
import HandS.Iter
import HandS.Dict
import KE.DatumOrd
import PyProof.ZipIter
import HandS.Sort
import KE.OsArith
import PyProof.MinMaxWalk
import PyProof.WalkInts
import PySem.Challenge.RW_sketchkeep_k53_pools_with_faults_and_hal
set_option Elab.async false
set_option linter.all false
set_option maxRecDepth 100000
namespace Zk
open PySem PySem.Spec PyProof.Rows L2

/-- data without addresses -/
inductive D where
  | non | bl (b : Bool) | int (i : Int) | str (s : Str)
  | tup (xs : List D) | lst (xs : List D)
  | dK (kvs : List (Key × D)) | dT (kvs : List (List Key × D))
  | set (xs : List Int)
  /-- a built-in type -/
  | ty (n : String)
  /-- a tuple of the module's own -/
  | con (xs : List D)
  /-- the script -/
  | scr (xs : List Int)

/-- nothing within can change -/
def imm : D → Bool
  | .non => true
  | .bl _ => true
  | .int _ => true
  | .str _ => true
  | .ty _ => true
  | .tup xs => imms xs
  | .con xs => imms xs
  | .lst _ => false
  | .dK _ => false
  | .dT _ => false
  | .set _ => false
  | .scr _ => false
where imms : List D → Bool
  | [] => true
  | d :: ds => imm d && imms ds
abbrev imms := imm.imms
@[simp] theorem imm_non : imm .non = true := by simp [imm]
@[simp] theorem imm_bl (b : Bool) : imm (.bl b) = true := by simp [imm]
@[simp] theorem imm_int (b : Int) : imm (.int b) = true := by simp [imm]
@[simp] theorem imm_str (b : Str) : imm (.str b) = true := by simp [imm]
@[simp] theorem imm_ty (b : String) : imm (.ty b) = true := by simp [imm]
@[simp] theorem imm_tup (xs : List D) : imm (.tup xs) = imms xs := by simp [imm]
@[simp] theorem imm_con (xs : List D) : imm (.con xs) = imms xs := by simp [imm]
@[simp] theorem imm_lst (xs : List D) : imm (.lst xs) = false := by simp [imm]
@[simp] theorem imm_dK (xs : List (Key × D)) : imm (.dK xs) = false := by simp [imm]
@[simp] theorem imm_dT (xs : List (List Key × D)) : imm (.dT xs) = false := by simp [imm]
@[simp] theorem imm_set (xs : List Int) : imm (.set xs) = false := by simp [imm]
@[simp] theorem imm_scr (xs : List Int) : imm (.scr xs) = false := by simp [imm]
@[simp] theorem imms_nil : imms [] = true := by simp [imms, imm.imms]
@[simp] theorem imms_cons (d : D) (ds : List D) : imms (d :: ds) = (imm d && imms ds) := by simp [imms, imm.imms]
theorem imms_all : ∀ ds : List D, imms ds = ds.all imm
  | [] => by simp
  | d :: ds => by simp [imms_all ds]
theorem imms_append (a b : List D) : imms (a ++ b) = (imms a && imms b) := by simp [imms_all]
theorem imms_map {α : Type} (f : α → D) (h : ∀ x, imm (f x) = true) (xs : List α) : imms (xs.map f) = true := by
  simp [imms_all, List.all_eq_true, h]

/-- flat: a changeable thing of unchangeable ones -/
def flat : D → Bool
  | .lst xs => imms xs
  | .dK kvs => imms (kvs.map (·.2))
  | .dT kvs => imms (kvs.map (·.2))
  | .set _ => true
  | _ => false

/-- a list that is locked, or a written one -/
def SqF (K : PySem.W.Frag) (H : Hp) (a : Addr) (xs : List V) : Prop :=
  (∃ o, H a = some (.frz o (.lst xs))) ∨
    ∃ (o : Obj) (its : Array Value) (n : Nat), K.lookup a = some o ∧ o.cls = .type "list" ∧ o.dict = none ∧ o.data = .seq its n ∧ its.size ≤ sizeLine ∧ Vals xs its.toList
theorem SqF.sq {K : PySem.W.Frag} {H : Hp} {a : Addr} {xs : List V} (h : SqF K H a xs) : SqL K H a xs := by
  rcases h with ⟨o, h⟩ | h
  · exact .inl (.inr ⟨o, h⟩)
  · exact .inr h
/-- a written tuple -/
def SqU (K : PySem.W.Frag) (a : Addr) (xs : List V) : Prop :=
    ∃ (o : Obj) (its : Array Value) (n : Nat), K.lookup a = some o ∧ o.cls = .type "tuple" ∧ o.data = .seq its n ∧ its.size ≤ sizeLine ∧ Vals xs its.toList
theorem SqU.sq {K : PySem.W.Frag} {H : Hp} {a : Addr} {xs : List V} (h : SqU K a xs) : SqT K H a xs := .inr h
mutual
/-- v stands for d; what can change within is at addresses of Z -/
inductive Rp (K : PySem.W.Frag) (Z : Addr → Prop) (H : Hp) : V → D → Prop
  | non : Rp K Z H .non .non
  | bl (b : Bool) : Rp K Z H (.bl b) (.bl b)
  | int (i : Int) : Rp K Z H (.int i) (.int i)
  | str (x : Str) : Rp K Z H (.str x) (.str x)
  | ty (x : String) : Rp K Z H (.ty x) (.ty x)
  | con {a : Addr} {vs : List V} {ds : List D} : SqU K a vs → Rps K Z H vs ds → Rp K Z H (.ref a) (.con ds)
  | tup {a : Addr} {vs : List V} {ds : List D} : H a = some (.tup vs) → Rps K Z H vs ds → Rp K Z H (.ref a) (.tup ds)
  | lst {a : Addr} {vs : List V} {ds : List D} : Z a → H a = some (.lst vs) → Rps K Z H vs ds → Rp K Z H (.ref a) (.lst ds)
  | dK {a : Addr} {kvs : List (Key × V)} {kds : List (Key × D)} : Z a → Rd H a (.dK kvs) → kvs.map (·.1) = kds.map (·.1) → Rps K Z H (kvs.map (·.2)) (kds.map (·.2)) → Rp K Z H (.ref a) (.dK kds)
  | dT {a : Addr} {kvs : List (List Key × V)} {kds : List (List Key × D)} : Z a → H a = some (.dT kvs) → kvs.map (·.1) = kds.map (·.1) → Rps K Z H (kvs.map (·.2)) (kds.map (·.2)) → Rp K Z H (.ref a) (.dT kds)
  | set {a : Addr} {S : Int → Bool} {n : Nat} {xs : List Int} : Z a → H a = some (.set S n) → (∀ i, S i = decide (i ∈ xs)) → n = xs.length → xs.Nodup → Rp K Z H (.ref a) (.set xs)
  | scr {a : Addr} {ns : List Int} : SqF K H a (ns.map V.int) → Rp K Z H (.ref a) (.scr ns)
inductive Rps (K : PySem.W.Frag) (Z : Addr → Prop) (H : Hp) : List V → List D → Prop
  | nil : Rps K Z H [] []
  | cons {v : V} {d : D} {vs : List V} {ds : List D} : Rp K Z H v d → Rps K Z H vs ds → Rps K Z H (v :: vs) (d :: ds)
end

/-- what lies frozen, the tuples and what is locked persist -/
structure Pers (Z : Addr → Prop) (H : Hp) (Z' : Addr → Prop) (H' : Hp) : Prop where
  zz : ∀ a, Z a → Z' a
  hz : ∀ a o, Z a → H a = some o → H' a = some o
  tp : ∀ a o, H a = some o → ¬ Mut (some o) → H' a = some o
theorem Pers.refl (Z : Addr → Prop) (H : Hp) : Pers Z H Z H := ⟨fun _ h => h, fun _ _ _ h => h, fun _ _ h _ => h⟩
theorem Pers.trans {Z Z1 Z2 : Addr → Prop} {H H1 H2 : Hp} (a : Pers Z H Z1 H1) (b : Pers Z1 H1 Z2 H2) : Pers Z H Z2 H2 :=
  ⟨fun x h => b.zz x (a.zz x h), fun x o h e => b.hz x o (a.zz x h) (a.hz x o h e), fun x o e n => b.tp x o (a.tp x o e n) n⟩
theorem Pers.sqF {K : PySem.W.Frag} {Z Z' : Addr → Prop} {H H' : Hp} (p : Pers Z H Z' H') {a : Addr} {vs : List V} (h : SqF K H a vs) : SqF K H' a vs := by
  rcases h with ⟨o, h⟩ | h
  · exact .inl ⟨o, p.tp _ _ h fun z => z⟩
  · exact .inr h
theorem rdP {Z Z' : Addr → Prop} {H H' : Hp} (p : Pers Z H Z' H') {a : Addr} {u : HO} (z : Z a) (h : Rd H a u) : Rd H' a u := h.elim (fun h => .inl (p.hz _ _ z h)) fun ⟨o, h⟩ => .inr ⟨o, p.tp _ _ h fun z => z⟩
mutual
theorem Rp.pers {K : PySem.W.Frag} {Z Z' : Addr → Prop} {H H' : Hp} (p : Pers Z H Z' H') : ∀ {v : V} {d : D}, Rp K Z H v d → Rp K Z' H' v d
  | _, _, .non => .non
  | _, _, .bl b => .bl b
  | _, _, .int i => .int i
  | _, _, .str x => .str x
  | _, _, .ty x => .ty x
  | _, _, .tup h r => .tup (p.tp _ _ h fun z => z) (Rps.pers p r)
  | _, _, .con h r => .con h (Rps.pers p r)
  | _, _, .lst z h r => .lst (p.zz _ z) (p.hz _ _ z h) (Rps.pers p r)
  | _, _, .dK z h e r => .dK (p.zz _ z) (rdP p z h) e (Rps.pers p r)
  | _, _, .dT z h e r => .dT (p.zz _ z) (p.hz _ _ z h) e (Rps.pers p r)
  | _, _, .set z h e n d => .set (p.zz _ z) (p.hz _ _ z h) e n d
  | _, _, .scr h => .scr (p.sqF h)
theorem Rps.pers {K : PySem.W.Frag} {Z Z' : Addr → Prop} {H H' : Hp} (p : Pers Z H Z' H') : ∀ {vs : List V} {ds : List D}, Rps K Z H vs ds → Rps K Z' H' vs ds
  | _, _, .nil => .nil
  | _, _, .cons h t => .cons (Rp.pers p h) (Rps.pers p t)
end
mutual
/-- unchangeable data hang on the tuples alone -/
theorem Rp.immz {K : PySem.W.Frag} {Z Z' : Addr → Prop} {H H' : Hp} (tp : ∀ a o, H a = some o → ¬ Mut (some o) → H' a = some o) : ∀ {v : V} {d : D}, Rp K Z H v d → imm d = true → Rp K Z' H' v d
  | _, _, .non, _ => .non
  | _, _, .bl b, _ => .bl b
  | _, _, .int i, _ => .int i
  | _, _, .str x, _ => .str x
  | _, _, .ty x, _ => .ty x
  | _, .tup ds, .tup h r, i => .tup (tp _ _ h fun z => z) (Rps.immz tp r (by simpa using i))
  | _, .con ds, .con h r, i => .con h (Rps.immz tp r (by simpa using i))
  | _, _, .lst _ _ _, i => by simp at i
  | _, _, .dK _ _ _ _, i => by simp at i
  | _, _, .dT _ _ _ _, i => by simp at i
  | _, _, .set _ _ _ _ _, i => by simp at i
  | _, _, .scr _, i => by simp at i
theorem Rps.immz {K : PySem.W.Frag} {Z Z' : Addr → Prop} {H H' : Hp} (tp : ∀ a o, H a = some o → ¬ Mut (some o) → H' a = some o) : ∀ {vs : List V} {ds : List D}, Rps K Z H vs ds → imms ds = true → Rps K Z' H' vs ds
  | _, _, .nil, _ => .nil
  | _, _, .cons (d := d) h t, i => by
    simp only [imms_cons, Bool.and_eq_true] at i
    exact .cons (Rp.immz tp h i.1) (Rps.immz tp t i.2)
end
theorem Rps.len {K : PySem.W.Frag} {Z : Addr → Prop} {H : Hp} : ∀ {vs : List V} {ds : List D}, Rps K Z H vs ds → vs.length = ds.length
  | _, _, .nil => rfl
  | _, _, .cons _ t => by simp [Rps.len t]
theorem Rps.get {K : PySem.W.Frag} {Z : Addr → Prop} {H : Hp} : ∀ {vs : List V} {ds : List D}, Rps K Z H vs ds → ∀ {i : Nat} {v : V}, vs[i]? = some v → ∃ d, ds[i]? = some d ∧ Rp K Z H v d
  | _, _, .nil, i, v, e => by simp at e
  | _, _, .cons h t, 0, v, e => by simp at e; subst e; exact ⟨_, rfl, h⟩
  | _, _, .cons h t, i + 1, v, e => by
    obtain ⟨d, e2, r⟩ := Rps.get t (i := i) (v := v) (by simpa using e)
    exact ⟨d, by simpa using e2, r⟩
theorem Rps.getD {K : PySem.W.Frag} {Z : Addr → Prop} {H : Hp} : ∀ {vs : List V} {ds : List D}, Rps K Z H vs ds → ∀ {i : Nat} {d : D}, ds[i]? = some d → ∃ v, vs[i]? = some v ∧ Rp K Z H v d
  | _, _, .nil, i, v, e => by simp at e
  | _, _, .cons h t, 0, v, e => by simp at e; subst e; exact ⟨_, rfl, h⟩
  | _, _, .cons h t, i + 1, v, e => by
    obtain ⟨d, e2, r⟩ := Rps.getD t (i := i) (d := v) (by simpa using e)
    exact ⟨d, by simpa using e2, r⟩
theorem Rps.append {K : PySem.W.Frag} {Z : Addr → Prop} {H : Hp} : ∀ {vs ws : List V} {ds es : List D}, Rps K Z H vs ds → Rps K Z H ws es → Rps K Z H (vs ++ ws) (ds ++ es)
  | _, _, _, _, .nil, r => r
  | _, _, _, _, .cons h t, r => .cons h (Rps.append t r)
theorem Rps.take {K : PySem.W.Frag} {Z : Addr → Prop} {H : Hp} : ∀ {vs : List V} {ds : List D} (n : Nat), Rps K Z H vs ds → Rps K Z H (vs.take n) (ds.take n)
  | _, _, 0, _ => by simp; exact .nil
  | _, _, n + 1, .nil => by simp; exact .nil
  | _, _, n + 1, .cons h t => .cons h (Rps.take n t)
theorem Rps.drop {K : PySem.W.Frag} {Z : Addr → Prop} {H : Hp} : ∀ {vs : List V} {ds : List D} (n : Nat), Rps K Z H vs ds → Rps K Z H (vs.drop n) (ds.drop n)
  | _, _, 0, r => by simpa using r
  | _, _, n + 1, .nil => by simp; exact .nil
  | _, _, n + 1, .cons h t => Rps.drop n t
theorem Rps.set {K : PySem.W.Frag} {Z : Addr → Prop} {H : Hp} {v : V} {d : D} (h : Rp K Z H v d) : ∀ {vs : List V} {ds : List D} (n : Nat), Rps K Z H vs ds → Rps K Z H (vs.set n v) (ds.set n d)
  | _, _, _, .nil => by simp; exact .nil
  | _, _, 0, .cons _ t => .cons h t
  | _, _, n + 1, .cons g t => .cons g (Rps.set h n t)
theorem Rps.rev {K : PySem.W.Frag} {Z : Addr → Prop} {H : Hp} : ∀ {vs : List V} {ds : List D}, Rps K Z H vs ds → Rps K Z H vs.reverse ds.reverse
  | _, _, .nil => by simp; exact .nil
  | _, _, .cons h t => by simp only [List.reverse_cons]; exact Rps.append (Rps.rev t) (.cons h .nil)
theorem Rps.ints {K : PySem.W.Frag} {Z : Addr → Prop} {H : Hp} : ∀ {vs : List V} {ns : List Int}, Rps K Z H vs (ns.map D.int) → vs = ns.map V.int
  | _, [], .nil => rfl
  | _, n :: ns, .cons h t => by cases h; simp [Rps.ints t]
theorem Rps.ofInts {K : PySem.W.Frag} {Z : Addr → Prop} {H : Hp} : ∀ (ns : List Int), Rps K Z H (ns.map V.int) (ns.map D.int)
  | [] => .nil
  | n :: ns => .cons (.int n) (Rps.ofInts ns)
theorem Rps.bls {K : PySem.W.Frag} {Z : Addr → Prop} {H : Hp} : ∀ {vs : List V} {ns : List Bool}, Rps K Z H vs (ns.map D.bl) → vs = ns.map V.bl
  | _, [], .nil => rfl
  | _, n :: ns, .cons h t => by cases h; simp [Rps.bls t]

/-- three lists, item by item -/
inductive All3 {α β γ : Type} (P : α → β → γ → Prop) : List α → List β → List γ → Prop
  | nil : All3 P [] [] []
  | cons {a b c as bs cs} : P a b c → All3 P as bs cs → All3 P (a :: as) (b :: bs) (c :: cs)

/-- v stands for d, the addresses rs are ours alone, n levels deep -/
def Own (K : PySem.W.Frag) (Z : Addr → Prop) (H : Hp) : Nat → V → D → List Addr → Prop
  | 0, v, d, rs => rs = [] ∧ Rp K Z H v d
  | n + 1, v, d, rs =>
    match d with
    | .lst ds => ∃ a vs rss, v = .ref a ∧ H a = some (.lst vs) ∧ ¬ Z a ∧ All3 (Own K Z H n) vs ds rss ∧ rs = a :: rss.flatten
    | .dK kds => ∃ a kvs rss, v = .ref a ∧ H a = some (.dK kvs) ∧ ¬ Z a ∧ kvs.map (·.1) = kds.map (·.1) ∧ All3 (Own K Z H n) (kvs.map (·.2)) (kds.map (·.2)) rss ∧ rs = a :: rss.flatten
    | .dT kds => ∃ a kvs rss, v = .ref a ∧ H a = some (.dT kvs) ∧ ¬ Z a ∧ kvs.map (·.1) = kds.map (·.1) ∧ All3 (Own K Z H n) (kvs.map (·.2)) (kds.map (·.2)) rss ∧ rs = a :: rss.flatten
    | .set xs => ∃ a S m, v = .ref a ∧ H a = some (.set S m) ∧ ¬ Z a ∧ (∀ i, S i = decide (i ∈ xs)) ∧ m = xs.length ∧ xs.Nodup ∧ rs = [a]
    | _ => rs = [] ∧ Rp K Z H v d

section
variable {K : PySem.W.Frag} {Z Z' : Addr → Prop} {H H' : Hp}
theorem All3.imp {α β γ : Type} {P Q : α → β → γ → Prop} : ∀ {as : List α} {bs : List β} {cs : List γ}, All3 P as bs cs → (∀ a b c, c ∈ cs → P a b c → Q a b c) → All3 Q as bs cs
  | _, _, _, .nil, _ => .nil
  | _, _, _, .cons h t, f => .cons (f _ _ _ List.mem_cons_self h) (t.imp fun a b c m => f a b c (List.mem_cons_of_mem _ m))
theorem mem_flatten_of {a : Addr} {rs : List Addr} {rss : List (List Addr)} (h : rs ∈ rss) (m : a ∈ rs) : a ∈ rss.flatten := List.mem_flatten.mpr ⟨rs, h, m⟩

theorem Own.imm : ∀ {n : Nat} {v : V} {d : D} {rs : List Addr}, Own K Z H n v d rs → imm d = true → rs = [] ∧ Rp K Z H v d
  | 0, _, _, _, h, _ => h
  | n + 1, _, .non, _, h, _ => h
  | n + 1, _, .bl _, _, h, _ => h
  | n + 1, _, .int _, _, h, _ => h
  | n + 1, _, .str _, _, h, _ => h
  | n + 1, _, .ty _, _, h, _ => h
  | n + 1, _, .tup _, _, h, _ => h
  | n + 1, _, .con _, _, h, _ => h
theorem Own.ofImm : ∀ {n : Nat} {v : V} {d : D}, Rp K Z H v d → Zk.imm d = true → Own K Z H n v d []
  | 0, _, _, h, _ => ⟨rfl, h⟩
  | n + 1, _, .non, h, _ => ⟨rfl, h⟩
  | n + 1, _, .bl _, h, _ => ⟨rfl, h⟩
  | n + 1, _, .int _, h, _ => ⟨rfl, h⟩
  | n + 1, _, .str _, h, _ => ⟨rfl, h⟩
  | n + 1, _, .ty _, h, _ => ⟨rfl, h⟩
  | n + 1, _, .tup _, h, _ => ⟨rfl, h⟩
  | n + 1, _, .con _, h, _ => ⟨rfl, h⟩
/-- an owned thing stands while its own addresses stand and what lies frozen persists -/
theorem Own.keep (p : Pers Z H Z' H') : ∀ {n : Nat} {v : V} {d : D} {rs : List Addr}, (∀ a ∈ rs, H' a = H a ∧ ¬ Z' a) → Own K Z H n v d rs → Own K Z' H' n v d rs
  | 0, _, _, _, k, h => ⟨h.1, h.2.pers p⟩
  | n + 1, _, .lst ds, rs, k, h => by
    obtain ⟨a, vs, rss, e, ha, z, r, rfl⟩ := h
    obtain ⟨k1, k2⟩ := k a List.mem_cons_self
    exact ⟨a, vs, rss, e, k1.trans ha, k2, r.imp fun v d rs m o => Own.keep p (fun b hb => k b (List.mem_cons_of_mem _ (mem_flatten_of m hb))) o, rfl⟩
  | n + 1, _, .dK ds, rs, k, h => by
    obtain ⟨a, vs, rss, e, ha, z, e2, r, rfl⟩ := h
    obtain ⟨k1, k2⟩ := k a List.mem_cons_self
    exact ⟨a, vs, rss, e, k1.trans ha, k2, e2, r.imp fun v d rs m o => Own.keep p (fun b hb => k b (List.mem_cons_of_mem _ (mem_flatten_of m hb))) o, rfl⟩
  | n + 1, _, .dT ds, rs, k, h => by
    obtain ⟨a, vs, rss, e, ha, z, e2, r, rfl⟩ := h
    obtain ⟨k1, k2⟩ := k a List.mem_cons_self
    exact ⟨a, vs, rss, e, k1.trans ha, k2, e2, r.imp fun v d rs m o => Own.keep p (fun b hb => k b (List.mem_cons_of_mem _ (mem_flatten_of m hb))) o, rfl⟩
  | n + 1, _, .set xs, rs, k, h => by
    obtain ⟨a, S, m, e, ha, z, e2, e3, e4, rfl⟩ := h
    obtain ⟨k1, k2⟩ := k a List.mem_cons_self
    exact ⟨a, S, m, e, k1.trans ha, k2, e2, e3, e4, rfl⟩
  | n + 1, _, .non, rs, k, h => ⟨h.1, h.2.pers p⟩
  | n + 1, _, .bl _, rs, k, h => ⟨h.1, h.2.pers p⟩
  | n + 1, _, .int _, rs, k, h => ⟨h.1, h.2.pers p⟩
  | n + 1, _, .str _, rs, k, h => ⟨h.1, h.2.pers p⟩
  | n + 1, _, .ty _, rs, k, h => ⟨h.1, h.2.pers p⟩
  | n + 1, _, .tup _, rs, k, h => ⟨h.1, h.2.pers p⟩
  | n + 1, _, .con _, rs, k, h => ⟨h.1, h.2.pers p⟩
  | n + 1, _, .scr _, rs, k, h => ⟨h.1, h.2.pers p⟩
theorem All3.rps {P : V → D → List Addr → Prop} {R : V → D → Prop} (hR : ∀ v d rs, P v d rs → Rp K Z H v d) : ∀ {vs : List V} {ds : List D} {rss : List (List Addr)}, All3 P vs ds rss → Rps K Z H vs ds
  | _, _, _, .nil => .nil
  | _, _, _, .cons h t => .cons (hR _ _ _ h) (All3.rps (R := R) hR t)
/-- what is ours may be frozen -/
theorem Own.freeze (p : Pers Z H Z' H') : ∀ {n : Nat} {v : V} {d : D} {rs : List Addr}, (∀ a ∈ rs, H' a = H a ∧ Z' a) → Own K Z H n v d rs → Rp K Z' H' v d
  | 0, _, _, _, k, h => h.2.pers p
  | n + 1, _, .lst ds, rs, k, h => by
    obtain ⟨a, vs, rss, e, ha, z, r, rfl⟩ := h
    obtain ⟨k1, k2⟩ := k a List.mem_cons_self
    subst e
    exact .lst k2 (k1.trans ha) (All3.rps (R := fun _ _ => True) (P := fun v d rs => Rp K Z' H' v d) (fun _ _ _ h => h) (r.imp fun v d rs m o => Own.freeze p (fun b hb => k b (List.mem_cons_of_mem _ (mem_flatten_of m hb))) o))
  | n + 1, _, .dK ds, rs, k, h => by
    obtain ⟨a, vs, rss, e, ha, z, e2, r, rfl⟩ := h
    obtain ⟨k1, k2⟩ := k a List.mem_cons_self
    subst e
    exact .dK k2 (.inl (k1.trans ha)) e2 (All3.rps (R := fun _ _ => True) (P := fun v d rs => Rp K Z' H' v d) (fun _ _ _ h => h) (r.imp fun v d rs m o => Own.freeze p (fun b hb => k b (List.mem_cons_of_mem _ (mem_flatten_of m hb))) o))
  | n + 1, _, .dT ds, rs, k, h => by
    obtain ⟨a, vs, rss, e, ha, z, e2, r, rfl⟩ := h
    obtain ⟨k1, k2⟩ := k a List.mem_cons_self
    subst e
    exact .dT k2 (k1.trans ha) e2 (All3.rps (R := fun _ _ => True) (P := fun v d rs => Rp K Z' H' v d) (fun _ _ _ h => h) (r.imp fun v d rs m o => Own.freeze p (fun b hb => k b (List.mem_cons_of_mem _ (mem_flatten_of m hb))) o))
  | n + 1, _, .set xs, rs, k, h => by
    obtain ⟨a, S, m, e, ha, z, e2, e3, e4, rfl⟩ := h
    obtain ⟨k1, k2⟩ := k a List.mem_cons_self
    subst e
    exact .set k2 (k1.trans ha) e2 e3 e4
  | n + 1, _, .non, rs, k, h => h.2.pers p
  | n + 1, _, .bl _, rs, k, h => h.2.pers p
  | n + 1, _, .int _, rs, k, h => h.2.pers p
  | n + 1, _, .str _, rs, k, h => h.2.pers p
  | n + 1, _, .ty _, rs, k, h => h.2.pers p
  | n + 1, _, .tup _, rs, k, h => h.2.pers p
  | n + 1, _, .con _, rs, k, h => h.2.pers p
  | n + 1, _, .scr _, rs, k, h => h.2.pers p
/-- it may be read -/
theorem Own.rd {n : Nat} {v : V} {d : D} {rs : List Addr} (h : Own K Z H n v d rs) : Rp K (fun _ => True) H v d :=
  Own.freeze (Z' := fun _ => True) (H' := H) ⟨fun _ _ => trivial, fun _ _ _ e => e, fun _ _ e _ => e⟩ (fun _ _ => ⟨rfl, trivial⟩) h
theorem Rp.rd {v : V} {d : D} (h : Rp K Z H v d) : Rp K (fun _ => True) H v d := h.pers ⟨fun _ _ => trivial, fun _ _ _ e => e, fun _ _ e _ => e⟩
theorem All3.flat {P : V → D → List Addr → Prop} {C : Addr → Prop} (hP : ∀ v d rs, P v d rs → ∀ a ∈ rs, C a) : ∀ {vs : List V} {ds : List D} {rss : List (List Addr)}, All3 P vs ds rss → ∀ a ∈ rss.flatten, C a
  | _, _, _, .nil, a, h => by simp at h
  | _, _, _, .cons h t, a, m => by
    rw [List.flatten_cons, List.mem_append] at m
    rcases m with m | m
    · exact hP _ _ _ h a m
    · exact All3.flat hP t a m
/-- what is ours is changeable and not frozen -/
theorem Own.mut : ∀ {n : Nat} {v : V} {d : D} {rs : List Addr}, Own K Z H n v d rs → ∀ a ∈ rs, Mut (H a) ∧ ¬ Z a
  | 0, _, _, _, h, a, m => by rw [h.1] at m; simp at m
  | n + 1, _, .lst ds, rs, h, a, m => by
    obtain ⟨b, vs, rss, e, ha, z, r, rfl⟩ := h
    rcases List.mem_cons.mp m with rfl | m
    · exact ⟨by rw [ha]; trivial, z⟩
    · exact All3.flat (C := fun a => Mut (H a) ∧ ¬ Z a) (fun v d rs o => Own.mut o) r a m
  | n + 1, _, .dK ds, rs, h, a, m => by
    obtain ⟨b, vs, rss, e, ha, z, _, r, rfl⟩ := h
    rcases List.mem_cons.mp m with rfl | m
    · exact ⟨by rw [ha]; trivial, z⟩
    · exact All3.flat (C := fun a => Mut (H a) ∧ ¬ Z a) (fun v d rs o => Own.mut o) r a m
  | n + 1, _, .dT ds, rs, h, a, m => by
    obtain ⟨b, vs, rss, e, ha, z, _, r, rfl⟩ := h
    rcases List.mem_cons.mp m with rfl | m
    · exact ⟨by rw [ha]; trivial, z⟩
    · exact All3.flat (C := fun a => Mut (H a) ∧ ¬ Z a) (fun v d rs o => Own.mut o) r a m
  | n + 1, _, .set xs, rs, h, a, m => by
    obtain ⟨b, S, k, e, ha, z, _, _, _, rfl⟩ := h
    have e : a = b := by simpa using m
    subst e
    exact ⟨by rw [ha]; trivial, z⟩
  | n + 1, _, .non, rs, h, a, m => by rw [h.1] at m; simp at m
  | n + 1, _, .bl _, rs, h, a, m => by rw [h.1] at m; simp at m
  | n + 1, _, .int _, rs, h, a, m => by rw [h.1] at m; simp at m
  | n + 1, _, .str _, rs, h, a, m => by rw [h.1] at m; simp at m
  | n + 1, _, .ty _, rs, h, a, m => by rw [h.1] at m; simp at m
  | n + 1, _, .tup _, rs, h, a, m => by rw [h.1] at m; simp at m
  | n + 1, _, .con _, rs, h, a, m => by rw [h.1] at m; simp at m
  | n + 1, _, .scr _, rs, h, a, m => by rw [h.1] at m; simp at m
end
end Zk
namespace Zk
open PySem PySem.Spec PyProof.Rows L2

/-- the slots: a thing and how many levels of it are ours -/
abbrev Ev := List (Option (D × Nat))
def eg (E : Ev) (i : Nat) : Option (D × Nat) := (E[i]?).join
/-- an expression's end: a slot (read later), or a thing -/
inductive Op where
  | slot (i : Nat)
  | val (d : D) (n : Nat)

abbrev Rs := Nat → List Addr
def ow (R : Rs) (a : Addr) : Prop := ∃ i, a ∈ R i
def put (R : Rs) (i : Nat) (rs : List Addr) : Rs := fun k => if k = i then rs else R k
theorem put_same {R : Rs} {i : Nat} {rs : List Addr} : put R i rs i = rs := if_pos rfl
theorem put_ne {R : Rs} {i k : Nat} {rs : List Addr} (h : k ≠ i) : put R i rs k = R k := if_neg h

structure S (K : PySem.W.Frag) (Z : Addr → Prop) (H : Hp) (σ : L2.St) (E : Ev) (R : Rs) : Prop where
  len : σ.length = E.length
  slot : ∀ i d n, eg E i = some (d, n) → ∃ v, σ[i]? = some (some v) ∧ Own K Z H n v d (R i)
  emp : ∀ i, eg E i = none → R i = []
  nd : ∀ i, (R i).Nodup
  dj : ∀ i j a, a ∈ R i → a ∈ R j → i = j
  zd : ∀ a, Z a → H a ≠ none

/-- what a step may change: O are the things that are ours -/
structure Step (Z : Addr → Prop) (H : Hp) (O : Addr → Prop) (Z' : Addr → Prop) (H' : Hp) (O' : Addr → Prop) : Prop where
  zz : ∀ a, Z a → Z' a
  zn : ∀ a, Z' a → Z a ∨ H a = none ∨ O a
  hh : ∀ a o, H a = some o → ¬ O a → H' a = some o
  on : ∀ a, O' a → O a ∨ H a = none
  dm : ∀ a, H a ≠ none → H' a ≠ none

section
variable {K : PySem.W.Frag} {Z Z' Z1 Z2 : Addr → Prop} {H H' H1 H2 : Hp} {O O' O1 O2 : Addr → Prop} {σ : L2.St} {E E' : Ev} {R R' : Rs}
theorem Step.refl : Step Z H O Z H O := ⟨fun _ h => h, fun _ h => .inl h, fun _ _ h _ => h, fun _ h => .inl h, fun _ h => h⟩
theorem Step.trans (a : Step Z H O Z1 H1 O1) (b : Step Z1 H1 O1 Z2 H2 O2) : Step Z H O Z2 H2 O2 where
  zz := fun x h => b.zz x (a.zz x h)
  zn := fun x h => by
    rcases b.zn x h with h | h | h
    · exact a.zn x h
    · by_cases q : H x = none
      · exact .inr (.inl q)
      · exact absurd h (a.dm x q)
    · rcases a.on x h with h | h
      · exact .inr (.inr h)
      · exact .inr (.inl h)
  hh := fun x o e n => b.hh x o (a.hh x o e n) fun h => by
    rcases a.on x h with h | h
    · exact n h
    · rw [e] at h; cases h
  on := fun x h => by
    rcases b.on x h with h | h
    · exact a.on x h
    · by_cases q : H x = none
      · exact .inr q
      · exact absurd h (a.dm x q)
  dm := fun x h => b.dm x (a.dm x h)
theorem S.owns (s : S K Z H σ E R) {a : Addr} (h : ow R a) : Mut (H a) ∧ ¬ Z a := by
  obtain ⟨i, m⟩ := h
  cases q : eg E i with
  | none => rw [s.emp i q] at m; simp at m
  | some dn =>
    obtain ⟨v, _, o⟩ := s.slot i dn.1 dn.2 q
    exact o.mut a m
theorem S.there (s : S K Z H σ E R) {a : Addr} (h : ow R a) : H a ≠ none := fun e => by
  have := (s.owns h).1
  rw [e] at this; exact this
/-- across a step the frozen and the tuples persist -/
theorem Step.pers (t : Step Z H O Z' H' O') (hO : ∀ a, O a → Mut (H a) ∧ ¬ Z a) : Pers Z H Z' H' :=
  ⟨t.zz, fun a o z e => t.hh a o e fun h => (hO a h).2 z, fun a o e n => t.hh a o e fun h => n (by have := (hO a h).1; rw [e] at this; exact this)⟩
theorem S.pers (s : S K Z H σ E R) (t : Step Z H (ow R) Z' H' O') : Pers Z H Z' H' := t.pers fun _ h => s.owns h
/-- a thing that was made ahead of a step stands behind it -/
theorem S.pend (s : S K Z H σ E R) (t : Step Z H (ow R) Z' H' O') {n : Nat} {v : V} {d : D} {rs : List Addr} (h : Own K Z H n v d rs) (f : ∀ a ∈ rs, ¬ ow R a) :
    Own K Z' H' n v d rs ∧ ∀ a ∈ rs, ¬ O' a := by
  have there : ∀ a ∈ rs, H a ≠ none := fun a m e => by
    have := (h.mut a m).1
    rw [e] at this; exact this
  refine ⟨h.keep (s.pers t) fun a m => ⟨?_, fun z => ?_⟩, fun a m z => ?_⟩
  · cases q : H a with
    | none => exact absurd q (there a m)
    | some o => exact t.hh a o q (f a m)
  · rcases t.zn a z with z | z | z
    · exact (h.mut a m).2 z
    · exact there a m z
    · exact f a m z
  · rcases t.on a z with z | z
    · exact f a m z
    · exact there a m z
end

/-- what an end stands for -/
def OV (K : PySem.W.Frag) (Z : Addr → Prop) (H : Hp) (σ : L2.St) (v : V) : Op → List Addr → Prop
  | .slot i, rs => σ[i]? = some (some v) ∧ rs = []
  | .val d n, rs => Own K Z H n v d rs
/-- an expression by data -/
abbrev Fe := Ev → Option (Op × Ev)
abbrev Ft := Ev → Option (Bool × Ev)
abbrev Fa := Ev → Option (List Op × Ev)
/-- how a statement ends -/
inductive Fl where
  | nx | bk | ct | rt (d : D) (n : Nat)
abbrev Fs := Ev → Option (Fl × Ev)

/-- fresh: it is no slot's, it was ours or is new -/
structure Fr (R : Rs) (H : Hp) (R' : Rs) (rs : List Addr) : Prop where
  nd : rs.Nodup
  no : ∀ a ∈ rs, ¬ ow R' a
  of : ∀ a ∈ rs, ow R a ∨ H a = none
theorem Fr.nil {R R' : Rs} {H : Hp} : Fr R H R' [] := ⟨List.nodup_nil, fun _ h => by simp at h, fun _ h => by simp at h⟩

def eOf (K : PySem.W.Frag) (f : Fe) : TE := fun σ H Q => ∃ Z E R, S K Z H σ E R ∧ ∃ o E', f E = some (o, E') ∧
  ∀ v Z' H' R' rs, S K Z' H' σ E' R' → Step Z H (ow R) Z' H' (ow R') → OV K Z' H' σ v o rs → Fr R H R' rs → Q v H'
def cOf (K : PySem.W.Frag) (f : Ft) : TT := fun σ H Q => ∃ Z E R, S K Z H σ E R ∧ ∃ b E', f E = some (b, E') ∧
  ∀ Z' H' R', S K Z' H' σ E' R' → Step Z H (ow R) Z' H' (ow R') → Q b H'
def aOf (K : PySem.W.Frag) (f : Fa) : TA := fun σ H Q => ∃ Z E R, S K Z H σ E R ∧ ∃ os E', f E = some (os, E') ∧
  ∀ vs Z' H' R' rss, S K Z' H' σ E' R' → Step Z H (ow R) Z' H' (ow R') → All3 (OV K Z' H' σ) vs os rss → Fr R H R' rss.flatten → Q vs H'
/-- a statement; w: the slots that it may set -/
def sOf (K : PySem.W.Frag) (w : List Nat) (f : Fs) : TS := fun D σ H => ∃ Z E R, S K Z H σ E R ∧ ∃ fl E', f E = some (fl, E') ∧
  ∀ σ' Z' H' R', S K Z' H' σ' E' R' → Step Z H (ow R) Z' H' (ow R') → (∀ i, i ∉ w → σ'[i]? = σ[i]?) →
    match fl with
    | .nx => D.nx σ' H'
    | .bk => D.bk σ' H'
    | .ct => D.ct σ' H'
    | .rt d n => ∀ v rs, Own K Z' H' n v d rs → Fr R H R' rs → D.rt v H'

abbrev AE (X : Cx) (e : Expr) (f : Fe) : Prop := PE X e (eOf X.K f)
abbrev AT (X : Cx) (e : Expr) (f : Ft) : Prop := PT X e (cOf X.K f)
abbrev AA (X : Cx) (es : List Expr) (f : Fa) : Prop := PA X es (aOf X.K f)
abbrev AS (X : Cx) (st : Stmt) (w : List Nat) (f : Fs) : Prop := PS X st (sOf X.K w f)
abbrev ASs (X : Cx) (st : List Stmt) (w : List Nat) (f : Fs) : Prop := PSs X st (sOf X.K w f)

theorem PE.mono {X : Cx} {e : Expr} {t t' : TE} (h : PE X e t) (m : ∀ σ H Q, t' σ H Q → t σ H Q) : PE X e t' := ⟨fun pins s σ H Q I q => h.run pins s σ H Q I (m σ H Q q)⟩
theorem PT.mono {X : Cx} {e : Expr} {t t' : TT} (h : PT X e t) (m : ∀ σ H Q, t' σ H Q → t σ H Q) : PT X e t' := ⟨fun pins s σ H Q I q => h.run pins s σ H Q I (m σ H Q q)⟩
theorem PW.mono {X : Cx} {e : Expr} {t t' : TT} (h : PW X e t) (m : ∀ σ H Q, t' σ H Q → t σ H Q) : PW X e t' := ⟨fun wh pins s σ H Q I q => h.run wh pins s σ H Q I (m σ H Q q)⟩
theorem PA.mono {X : Cx} {e : List Expr} {t t' : TA} (h : PA X e t) (m : ∀ σ H Q, t' σ H Q → t σ H Q) : PA X e t' := ⟨fun pos pins s σ H Q I q => h.run pos pins s σ H Q I (m σ H Q q)⟩
theorem PS.mono {X : Cx} {e : Stmt} {t t' : TS} (h : PS X e t) (m : ∀ D σ H, t' D σ H → t D σ H) : PS X e t' := ⟨fun pins s σ H D I q => h.run pins s σ H D I (m D σ H q)⟩
theorem PSs.mono {X : Cx} {e : List Stmt} {t t' : TS} (h : PSs X e t) (m : ∀ D σ H, t' D σ H → t D σ H) : PSs X e t' := ⟨fun pins s σ H D I q => h.run pins s σ H D I (m D σ H q)⟩

def rd (E : Ev) : Op → Option D
  | .slot i => (eg E i).map (·.1)
  | .val d _ => some d
/-- where an end comes to lie elsewhere, too: a slot's changeable thing is frozen -/
def tk (E : Ev) : Op → Option (D × Nat × Ev)
  | .slot i => match eg E i with
    | none => none
    | some (d, n) => if imm d = true then some (d, 9, E) else some (d, 0, E.set i (some (d, 0)))
  | .val d n => some (d, n, E)
/-- where an end is handed on for good -/
def mv (E : Ev) : Op → Option (D × Nat × Ev)
  | .slot i => match eg E i with
    | none => none
    | some (d, n) => if imm d = true then some (d, 9, E) else some (d, n, E.set i none)
  | .val d n => some (d, n, E)

section
variable {K : PySem.W.Frag} {Z Z' Z1 Z2 : Addr → Prop} {H H' H1 H2 : Hp} {O O' O1 O2 : Addr → Prop} {σ : L2.St} {E E' : Ev} {R R' : Rs}
theorem eg_set_same {i : Nat} {c : Option (D × Nat)} (h : i < E.length) : eg (E.set i c) i = c := by
  unfold eg; rw [List.getElem?_set_self h]; rfl
theorem eg_set_ne {i j : Nat} {c : Option (D × Nat)} (h : j ≠ i) : eg (E.set i c) j = eg E j := by
  unfold eg; rw [List.getElem?_set_ne (Ne.symm h)]
theorem eg_lt {i : Nat} {c : D × Nat} (h : eg E i = some c) : i < E.length := by
  unfold eg at h
  by_cases q : i < E.length
  · exact q
  · rw [List.getElem?_eq_none (by omega)] at h; cases h
theorem S.read (s : S K Z H σ E R) {v : V} {o : Op} {d : D} {rs : List Addr} (h : OV K Z H σ v o rs) (e : rd E o = some d) : Rp K (fun _ => True) H v d := by
  cases o with
  | slot i =>
    obtain ⟨h1, h2⟩ := h
    simp only [Zk.rd] at e
    cases q : eg E i with
    | none => rw [q] at e; cases e
    | some dn =>
      rw [q] at e
      obtain ⟨v', e1, o1⟩ := s.slot i dn.1 dn.2 q
      rw [h1] at e1
      cases e1
      cases e
      exact o1.rd
  | val d' n =>
    cases e
    exact Own.rd h
/-- an end made ahead of a step -/
theorem S.pendO (s : S K Z H σ E R) (t : Step Z H (ow R) Z' H' (ow R')) {v : V} {o : Op} {rs : List Addr} (h : OV K Z H σ v o rs) (f : ∀ a ∈ rs, ¬ ow R a) : OV K Z' H' σ v o rs ∧ ∀ a ∈ rs, ¬ ow R' a := by
  cases o with
  | slot i =>
    obtain ⟨h1, h2⟩ := h
    subst h2
    exact ⟨⟨h1, rfl⟩, fun a m => by simp at m⟩
  | val d n => exact s.pend t h f
/-- a slot set anew -/
theorem S.setSlot (s : S K Z H σ E R) {i : Nat} {v : V} {d : D} {n : Nat} {rs : List Addr} (hi : i < E.length) (h : Own K Z H n v d rs) (nd : rs.Nodup) (no : ∀ a ∈ rs, ¬ ow R a) :
    S K Z H (σ.set i (some v)) (E.set i (some (d, n))) (put R i rs) where
  len := by simp [s.len]
  slot := fun j d' n' e => by
    by_cases q : j = i
    · subst q
      rw [eg_set_same hi] at e
      cases e
      exact ⟨v, List.getElem?_set_self (by rw [s.len]; exact hi), by rw [put_same]; exact h⟩
    · rw [eg_set_ne q] at e
      obtain ⟨v', e1, o1⟩ := s.slot j d' n' e
      exact ⟨v', by rw [List.getElem?_set_ne (Ne.symm q)]; exact e1, by rw [put_ne q]; exact o1⟩
  emp := fun j e => by
    by_cases q : j = i
    · subst q; rw [eg_set_same hi] at e; cases e
    · rw [eg_set_ne q] at e; rw [put_ne q]; exact s.emp j e
  nd := fun j => by
    by_cases q : j = i
    · subst q; rw [put_same]; exact nd
    · rw [put_ne q]; exact s.nd j
  dj := fun j k a h1 h2 => by
    by_cases q : j = i
    · subst q
      rw [put_same] at h1
      by_cases q2 : k = j
      · exact q2.symm
      · rw [put_ne q2] at h2; exact absurd ⟨k, h2⟩ (no a h1)
    · rw [put_ne q] at h1
      by_cases q2 : k = i
      · subst q2; rw [put_same] at h2; exact absurd ⟨j, h1⟩ (no a h2)
      · rw [put_ne q2] at h2; exact s.dj j k a h1 h2
  zd := s.zd
/-- a slot that is forgotten -/
theorem S.dropSlot (s : S K Z H σ E R) {i : Nat} : S K Z H σ (E.set i none) (put R i []) where
  len := by simp [s.len]
  slot := fun j d' n' e => by
    by_cases q : j = i
    · subst q
      by_cases hi : j < E.length
      · rw [eg_set_same hi] at e; cases e
      · unfold eg at e; rw [List.getElem?_eq_none (by simp; omega)] at e; cases e
    · rw [eg_set_ne q] at e
      obtain ⟨v', e1, o1⟩ := s.slot j d' n' e
      exact ⟨v', e1, by rw [put_ne q]; exact o1⟩
  emp := fun j e => by
    by_cases q : j = i
    · subst q; exact put_same
    · rw [eg_set_ne q] at e; rw [put_ne q]; exact s.emp j e
  nd := fun j => by
    by_cases q : j = i
    · subst q; rw [put_same]; exact List.nodup_nil
    · rw [put_ne q]; exact s.nd j
  dj := fun j k a h1 h2 => by
    by_cases q : j = i
    · subst q; rw [put_same] at h1; simp at h1
    · rw [put_ne q] at h1
      by_cases q2 : k = i
      · subst q2; rw [put_same] at h2; simp at h2
      · rw [put_ne q2] at h2; exact s.dj j k a h1 h2
  zd := s.zd
theorem ow_put {i : Nat} {rs : List Addr} {a : Addr} : ow (put R i rs) a → a ∈ rs ∨ ow R a := fun ⟨j, m⟩ => by
  by_cases q : j = i
  · subst q; rw [put_same] at m; exact .inl m
  · rw [put_ne q] at m; exact .inr ⟨j, m⟩
/-- a slot's thing is frozen -/
theorem S.freeze (s : S K Z H σ E R) {i : Nat} {d : D} {n : Nat} (e : eg E i = some (d, n)) :
    S K (fun a => Z a ∨ a ∈ R i) H σ (E.set i (some (d, 0))) (put R i []) ∧ Step Z H (ow R) (fun a => Z a ∨ a ∈ R i) H (ow (put R i [])) ∧
      ∀ v, σ[i]? = some (some v) → Rp K (fun a => Z a ∨ a ∈ R i) H v d := by
  obtain ⟨v, e1, o1⟩ := s.slot i d n e
  have hi := eg_lt e
  have p : Pers Z H (fun a => Z a ∨ a ∈ R i) H := ⟨fun _ h => .inl h, fun _ _ _ h => h, fun _ _ h _ => h⟩
  have fz : Rp K (fun a => Z a ∨ a ∈ R i) H v d := o1.freeze p fun a m => ⟨rfl, .inr m⟩
  refine ⟨⟨by simp [s.len], fun j d' n' e' => ?_, fun j e' => ?_, fun j => ?_, fun j k a h1 h2 => ?_, fun a z => ?_⟩, ⟨fun _ h => .inl h, fun a h => ?_, fun _ _ h _ => h, fun a h => ?_, fun _ h => h⟩, fun v' e' => ?_⟩
  · by_cases q : j = i
    · subst q
      rw [eg_set_same hi] at e'
      cases e'
      exact ⟨v, e1, by rw [put_same]; exact ⟨rfl, fz⟩⟩
    · rw [eg_set_ne q] at e'
      obtain ⟨v', e2, o2⟩ := s.slot j d' n' e'
      refine ⟨v', e2, ?_⟩
      rw [put_ne q]
      refine o2.keep p fun a m => ⟨rfl, fun z => ?_⟩
      rcases z with z | z
      · exact (o2.mut a m).2 z
      · exact q (s.dj j i a m z)
  · by_cases q : j = i
    · subst q; exact put_same
    · rw [eg_set_ne q] at e'; rw [put_ne q]; exact s.emp j e'
  · by_cases q : j = i
    · subst q; rw [put_same]; exact List.nodup_nil
    · rw [put_ne q]; exact s.nd j
  · by_cases q : j = i
    · subst q; rw [put_same] at h1; simp at h1
    · rw [put_ne q] at h1
      by_cases q2 : k = i
      · subst q2; rw [put_same] at h2; simp at h2
      · rw [put_ne q2] at h2; exact s.dj j k a h1 h2
  · rcases z with z | z
    · exact s.zd a z
    · exact s.there ⟨i, z⟩
  · rcases h with h | h
    · exact .inl h
    · exact .inr (.inr ⟨i, h⟩)
  · rcases ow_put h with h | h
    · simp at h
    · exact .inl h
  · rw [e1] at e'; cases e'; exact fz
/-- taking an end -/
theorem S.take (s : S K Z H σ E R) {v : V} {o : Op} {d : D} {n : Nat} {E' : Ev} {rs : List Addr} (h : OV K Z H σ v o rs) (no : ∀ a ∈ rs, ¬ ow R a) (e : tk E o = some (d, n, E')) :
    ∃ Z' R', S K Z' H σ E' R' ∧ Step Z H (ow R) Z' H (ow R') ∧ Own K Z' H n v d rs ∧ (∀ a ∈ rs, ¬ ow R' a) ∧ (∀ a, ow R' a → ow R a) := by
  cases o with
  | val d' n' =>
    cases e
    exact ⟨Z, R, s, .refl, h, no, fun _ h => h⟩
  | slot i =>
    obtain ⟨h1, h2⟩ := h
    subst h2
    unfold tk at e
    cases q : eg E i with
    | none => simp [q] at e
    | some dn =>
      obtain ⟨d', n'⟩ := dn
      simp only [q] at e
      obtain ⟨v', e1, o1⟩ := s.slot i d' n' q
      rw [h1] at e1
      cases e1
      by_cases hi : imm d' = true
      · rw [if_pos hi] at e
        cases e
        exact ⟨Z, R, s, .refl, .ofImm (o1.imm hi).2 hi, no, fun _ h => h⟩
      · rw [if_neg hi] at e
        cases e
        obtain ⟨s1, t1, f1⟩ := s.freeze q
        refine ⟨_, _, s1, t1, ⟨rfl, f1 v h1⟩, fun a m => by simp at m, fun a h => ?_⟩
        rcases ow_put h with h | h
        · simp at h
        · exact h
/-- handing an end on -/
theorem S.move (s : S K Z H σ E R) {v : V} {o : Op} {d : D} {n : Nat} {E' : Ev} {rs : List Addr} (h : OV K Z H σ v o rs) (nd : rs.Nodup) (no : ∀ a ∈ rs, ¬ ow R a) (e : mv E o = some (d, n, E')) :
    ∃ R' rs', S K Z H σ E' R' ∧ Step Z H (ow R) Z H (ow R') ∧ Own K Z H n v d rs' ∧ rs'.Nodup ∧ (∀ a ∈ rs', ¬ ow R' a) ∧ (∀ a ∈ rs', a ∈ rs ∨ ow R a) ∧ (∀ a, ow R' a → ow R a) := by
  cases o with
  | val d' n' =>
    cases e
    exact ⟨R, rs, s, .refl, h, nd, no, fun _ h => .inl h, fun _ h => h⟩
  | slot i =>
    obtain ⟨h1, h2⟩ := h
    subst h2
    unfold mv at e
    cases q : eg E i with
    | none => simp [q] at e
    | some dn =>
      obtain ⟨d', n'⟩ := dn
      simp only [q] at e
      obtain ⟨v', e1, o1⟩ := s.slot i d' n' q
      rw [h1] at e1
      cases e1
      by_cases hi : imm d' = true
      · rw [if_pos hi] at e
        cases e
        exact ⟨R, [], s, .refl, .ofImm (o1.imm hi).2 hi, List.nodup_nil, fun a m => by simp at m, fun a m => by simp at m, fun _ h => h⟩
      · rw [if_neg hi] at e
        cases e
        have sub : ∀ a, ow (put R i []) a → ow R a := fun a h => by
          rcases ow_put h with h | h
          · simp at h
          · exact h
        refine ⟨_, R i, s.dropSlot, ⟨fun _ h => h, fun _ h => .inl h, fun _ _ h _ => h, fun a h => .inl (sub a h), fun _ h => h⟩, o1, s.nd i, fun a m ⟨j, hj⟩ => ?_, fun a m => .inr ⟨i, m⟩, sub⟩
        by_cases q2 : j = i
        · subst q2; rw [put_same] at hj; simp at hj
        · rw [put_ne q2] at hj; exact q2 (s.dj j i a hj m)
end
end Zk
namespace Zk
open PySem PySem.Spec PyProof.Rows L2

section
variable {K : PySem.W.Frag} {Z Z' Z1 Z2 : Addr → Prop} {H H' H1 H2 : Hp} {O O' O1 O2 : Addr → Prop} {σ : L2.St} {E E' : Ev} {R R' : Rs}
/-- the heap grows by new objects -/
def More (H H' : Hp) : Prop := ∀ a o, H a = some o → H' a = some o
theorem More.refl (H : Hp) : More H H := fun _ _ h => h
theorem More.trans {H H1 H2 : Hp} (a : More H H1) (b : More H1 H2) : More H H2 := fun x o h => b x o (a x o h)
theorem More.upd {p : Addr} {o : HO} (h : H p = none) : More H (upd H p o) := fun a u e => by rw [upd_ne (ne_of_none e h)]; exact e
theorem More.pers (m : More H H') (zz : ∀ a, Z a → Z' a) : Pers Z H Z' H' := ⟨zz, fun a o _ e => m a o e, fun a o e _ => m a o e⟩
theorem More.step (m : More H H') (O : Addr → Prop) : Step Z H O Z H' O :=
  ⟨fun _ h => h, fun _ h => .inl h, fun a o e _ => m a o e, fun _ h => .inl h, fun a h e => by
    cases q : H a with
    | none => exact h q
    | some o => rw [m a o q] at e; cases e⟩
theorem S.more (s : S K Z H σ E R) (m : More H H') : S K Z H' σ E R where
  len := s.len
  slot := fun i d n e => by
    obtain ⟨v, h1, h2⟩ := s.slot i d n e
    refine ⟨v, h1, h2.keep (m.pers fun _ h => h) fun a ha => ⟨?_, (h2.mut a ha).2⟩⟩
    cases q : H a with
    | none =>
      have := (h2.mut a ha).1
      rw [q] at this; exact this.elim
    | some o => exact m a o q
  emp := s.emp
  nd := s.nd
  dj := s.dj
  zd := fun a z e => by
    cases q : H a with
    | none => exact s.zd a z q
    | some o => rw [m a o q] at e; cases e
/-- more is frozen: addresses that are no slot's -/
theorem S.chill (s : S K Z H σ E R) {rs : List Addr} (no : ∀ a ∈ rs, ¬ ow R a) (th : ∀ a ∈ rs, H a ≠ none) : S K (fun a => Z a ∨ a ∈ rs) H σ E R where
  len := s.len
  slot := fun i d n e => by
    obtain ⟨v, h1, h2⟩ := s.slot i d n e
    refine ⟨v, h1, h2.keep ⟨fun _ h => .inl h, fun _ _ _ h => h, fun _ _ h _ => h⟩ fun a ha => ⟨rfl, fun z => ?_⟩⟩
    rcases z with z | z
    · exact (h2.mut a ha).2 z
    · exact no a z ⟨i, ha⟩
  emp := s.emp
  nd := s.nd
  dj := s.dj
  zd := fun a z => z.elim (s.zd a) (th a)
theorem Own.there {n : Nat} {v : V} {d : D} {rs : List Addr} (h : Own K Z H n v d rs) : ∀ a ∈ rs, H a ≠ none := fun a m e => by
  have := (h.mut a m).1
  rw [e] at this; exact this
theorem OV.there {v : V} {o : Op} {rs : List Addr} (h : OV K Z H σ v o rs) : ∀ a ∈ rs, H a ≠ none := by
  cases o with
  | slot i => intro a m; rw [h.2] at m; simp at m
  | val d n => exact Own.there h

/-- v stands for d, and all within is frozen -/
def Kf (K : PySem.W.Frag) (Z : Addr → Prop) (H : Hp) (v : V) (d : D) : Prop :=
  match d with
  | .lst ds => ∃ a vs, v = .ref a ∧ H a = some (.lst vs) ∧ Rps K Z H vs ds
  | .dK kds => ∃ a kvs, v = .ref a ∧ Rd H a (.dK kvs) ∧ kvs.map (·.1) = kds.map (·.1) ∧ Rps K Z H (kvs.map (·.2)) (kds.map (·.2))
  | .dT kds => ∃ a kvs, v = .ref a ∧ H a = some (.dT kvs) ∧ kvs.map (·.1) = kds.map (·.1) ∧ Rps K Z H (kvs.map (·.2)) (kds.map (·.2))
  | .set xs => ∃ a T m, v = .ref a ∧ H a = some (.set T m) ∧ (∀ i, T i = decide (i ∈ xs)) ∧ m = xs.length ∧ xs.Nodup
  | d => Rp K Z H v d
theorem Rp.kf {v : V} {d : D} (h : Rp K Z H v d) : Kf K Z H v d := by
  cases h with
  | lst z e r => exact ⟨_, _, rfl, e, r⟩
  | dK z e e2 r => exact ⟨_, _, rfl, e, e2, r⟩
  | dT z e e2 r => exact ⟨_, _, rfl, e, e2, r⟩
  | set z e a b c => exact ⟨_, _, _, rfl, e, a, b, c⟩
  | non => exact .non
  | bl b => exact .bl b
  | int b => exact .int b
  | str b => exact .str b
  | ty b => exact .ty b
  | tup a b => exact .tup a b
  | con a b => exact .con a b
  | scr a => exact .scr a
/-- taking items: a slot's thing of two levels or more is left with one -/
def ak (E : Ev) : Op → Option (D × Ev)
  | .slot i => match eg E i with
    | none => none
    | some (d, n) => if imm d = true ∨ flat d = true ∨ n ≤ 1 then some (d, E) else some (d, E.set i (some (d, 0)))
  | .val d _ => some (d, E)
theorem All3.immRps {n : Nat} : ∀ {vs : List V} {ds : List D} {rss : List (List Addr)}, All3 (Own K Z H n) vs ds rss → imms ds = true → Rps K Z H vs ds ∧ rss.flatten = []
  | _, _, _, .nil, _ => ⟨.nil, rfl⟩
  | _, _, _, .cons h t, i => by
    simp only [imms_cons, Bool.and_eq_true] at i
    obtain ⟨r, e⟩ := All3.immRps t i.2
    obtain ⟨e2, r2⟩ := h.imm i.1
    exact ⟨.cons r2 r, by rw [List.flatten_cons, e, e2]; rfl⟩
theorem All3.zeroRps : ∀ {vs : List V} {ds : List D} {rss : List (List Addr)}, All3 (Own K Z H 0) vs ds rss → Rps K Z H vs ds ∧ rss.flatten = []
  | _, _, _, .nil => ⟨.nil, rfl⟩
  | _, _, _, .cons h t => by
    obtain ⟨r, e⟩ := All3.zeroRps t
    exact ⟨.cons h.2 r, by rw [List.flatten_cons, e, h.1]; rfl⟩
theorem All3.ofRps0 : ∀ {vs : List V} {ds : List D}, Rps K Z H vs ds → All3 (Own K Z H 0) vs ds (ds.map fun _ => [])
  | _, _, .nil => .nil
  | _, _, .cons h t => .cons ⟨rfl, h⟩ (All3.ofRps0 t)
theorem All3.ofRpsI {n : Nat} : ∀ {vs : List V} {ds : List D}, Rps K Z H vs ds → imms ds = true → All3 (Own K Z H n) vs ds (ds.map fun _ => [])
  | _, _, .nil, _ => .nil
  | _, _, .cons h t, i => by
    simp only [imms_cons, Bool.and_eq_true] at i
    exact .cons (.ofImm h i.1) (All3.ofRpsI t i.2)
theorem flat_nils (ds : List D) : (ds.map fun _ => ([] : List Addr)).flatten = [] := by
  induction ds with
  | nil => rfl
  | cons d ds ih => simpa using ih
theorem Own.kf1 : ∀ {n : Nat} {v : V} {d : D} {rs : List Addr}, n ≤ 1 → Own K Z H n v d rs → Kf K Z H v d
  | 0, _, _, _, _, h => h.2.kf
  | 1, v, d, rs, _, h => by
    cases d with
    | lst ds =>
      obtain ⟨a, vs, rss, e, ha, z, r, _⟩ := h
      exact ⟨a, vs, e, ha, r.zeroRps.1⟩
    | dK ds =>
      obtain ⟨a, vs, rss, e, ha, z, e2, r, _⟩ := h
      exact ⟨a, vs, e, .inl ha, e2, r.zeroRps.1⟩
    | dT ds =>
      obtain ⟨a, vs, rss, e, ha, z, e2, r, _⟩ := h
      exact ⟨a, vs, e, ha, e2, r.zeroRps.1⟩
    | set xs =>
      obtain ⟨a, T, m, e, ha, z, e2, e3, e4, _⟩ := h
      exact ⟨a, T, m, e, ha, e2, e3, e4⟩
    | _ => exact h.2
theorem Own.kfFlat : ∀ {n : Nat} {v : V} {d : D} {rs : List Addr}, flat d = true → Own K Z H n v d rs → Kf K Z H v d
  | 0, _, _, _, _, h => h.2.kf
  | n + 1, v, d, rs, f, h => by
    cases d with
    | lst ds =>
      obtain ⟨a, vs, rss, e, ha, z, r, _⟩ := h
      exact ⟨a, vs, e, ha, (r.immRps (by simpa [flat] using f)).1⟩
    | dK ds =>
      obtain ⟨a, vs, rss, e, ha, z, e2, r, _⟩ := h
      exact ⟨a, vs, e, .inl ha, e2, (r.immRps (by simpa [flat] using f)).1⟩
    | dT ds =>
      obtain ⟨a, vs, rss, e, ha, z, e2, r, _⟩ := h
      exact ⟨a, vs, e, ha, e2, (r.immRps (by simpa [flat] using f)).1⟩
    | set xs =>
      obtain ⟨a, T, m, e, ha, z, e2, e3, e4, _⟩ := h
      exact ⟨a, T, m, e, ha, e2, e3, e4⟩
    | _ => exact h.2
theorem Own.kfImm {n : Nat} {v : V} {d : D} {rs : List Addr} (i : Zk.imm d = true) (h : Own K Z H n v d rs) : Kf K Z H v d := (h.imm i).2.kf
/-- behind taking items all within is frozen -/
theorem S.kids (s : S K Z H σ E R) {v : V} {o : Op} {d : D} {rs : List Addr} (h : OV K Z H σ v o rs) (no : ∀ a ∈ rs, ¬ ow R a) (e : ak E o = some (d, E')) :
    ∃ R', S K (fun a => (Z a ∨ a ∈ rs) ∨ (ow R a ∧ ¬ ow R' a)) H σ E' R' ∧ Kf K (fun a => (Z a ∨ a ∈ rs) ∨ (ow R a ∧ ¬ ow R' a)) H v d ∧ (∀ a, ow R' a → ow R a) := by
  cases o with
  | val d' n =>
    cases e
    have s1 := s.chill no (OV.there h)
    have p : Pers Z H (fun a => Z a ∨ a ∈ rs) H := ⟨fun _ h => .inl h, fun _ _ _ h => h, fun _ _ h _ => h⟩
    have ez : (fun a => (Z a ∨ a ∈ rs) ∨ (ow R a ∧ ¬ ow R a)) = fun a => Z a ∨ a ∈ rs := by
      funext a; simp
    refine ⟨R, by rw [ez]; exact s1, by rw [ez]; exact (Own.freeze p (fun a m => ⟨rfl, .inr m⟩) h).kf, fun _ h => h⟩
  | slot i =>
    obtain ⟨h1, h2⟩ := h
    subst h2
    have ez : (fun a => (Z a ∨ a ∈ ([] : List Addr)) ∨ (ow R a ∧ ¬ ow R a)) = Z := by
      funext a; simp
    unfold ak at e
    cases q : eg E i with
    | none => simp [q] at e
    | some dn =>
      obtain ⟨d', n'⟩ := dn
      simp only [q] at e
      obtain ⟨v', e1, o1⟩ := s.slot i d' n' q
      rw [h1] at e1
      cases e1
      split at e
      · rename_i c
        cases e
        refine ⟨R, by rw [ez]; exact s, ?_, fun _ h => h⟩
        rw [ez]
        rcases c with c | c | c
        · exact o1.kfImm c
        · exact o1.kfFlat c
        · exact o1.kf1 c
      · cases e
        obtain ⟨s1, t1, f1⟩ := s.freeze q
        have ez2 : (fun a => (Z a ∨ a ∈ ([] : List Addr)) ∨ (ow R a ∧ ¬ ow (put R i []) a)) = fun a => Z a ∨ a ∈ R i := by
          funext a
          simp only [List.not_mem_nil, or_false, eq_iff_iff]
          constructor
          · rintro (z | ⟨⟨j, m⟩, z⟩)
            · exact .inl z
            · by_cases c : j = i
              · subst c; exact .inr m
              · exact absurd ⟨j, by rw [put_ne c]; exact m⟩ z
          · rintro (z | z)
            · exact .inl z
            · refine .inr ⟨⟨i, z⟩, fun ⟨j, m⟩ => ?_⟩
              by_cases c : j = i
              · subst c; rw [put_same] at m; simp at m
              · rw [put_ne c] at m; exact c (s.dj j i a m z)
        refine ⟨put R i [], by rw [ez2]; exact s1, by rw [ez2]; exact (f1 v h1).kf, fun a h => ?_⟩
        rcases ow_put h with h | h
        · simp at h
        · exact h

/-- the end of an expression's step -/
theorem Step.fin {Z0 Zf : Addr → Prop} {H0 : Hp} {O0 : Addr → Prop} (t : Step Z0 H0 O0 Z H O) (zz : ∀ a, Z a → Zf a) (zn : ∀ a, Zf a → Z a ∨ O a ∨ O0 a ∨ H0 a = none) (m : More H H')
    (on : ∀ a, O' a → O a ∨ O0 a ∨ H0 a = none) : Step Z0 H0 O0 Zf H' O' where
  zz := fun a h => zz a (t.zz a h)
  zn := fun a h => by
    rcases zn a h with h | h | h | h
    · exact t.zn a h
    · rcases t.on a h with h | h
      · exact .inr (.inr h)
      · exact .inr (.inl h)
    · exact .inr (.inr h)
    · exact .inr (.inl h)
  hh := fun a o e n => m a o (t.hh a o e n)
  on := fun a h => by
    rcases on a h with h | h | h
    · exact t.on a h
    · exact .inl h
    · exact .inr h
  dm := fun a h e => by
    cases q : H a with
    | none => exact t.dm a h q
    | some o => rw [m a o q] at e; cases e

def rdL (E : Ev) : List Op → Option (List D)
  | [] => some []
  | o :: os => (rd E o).bind fun d => (rdL E os).map fun ds => d :: ds
def akL (E : Ev) : List Op → Option (List D × Ev)
  | [] => some ([], E)
  | o :: os => (ak E o).bind fun p => (akL p.2 os).map fun q => (p.1 :: q.1, q.2)
inductive Kfs (K : PySem.W.Frag) (Z : Addr → Prop) (H : Hp) : List V → List D → Prop
  | nil : Kfs K Z H [] []
  | cons {v : V} {d : D} {vs : List V} {ds : List D} : Kf K Z H v d → Kfs K Z H vs ds → Kfs K Z H (v :: vs) (d :: ds)
theorem S.readL (s : S K Z H σ E R) : ∀ {vs : List V} {os : List Op} {rss : List (List Addr)} {ds : List D}, All3 (OV K Z H σ) vs os rss → rdL E os = some ds → Rps K (fun _ => True) H vs ds
  | _, _, _, _, .nil, e => by cases e; exact .nil
  | _, _, _, _, .cons (b := o) (bs := os) h t, e => by
    simp only [rdL] at e
    cases q : rd E o with
    | none => rw [q] at e; cases e
    | some d =>
      cases q2 : rdL E os with
      | none => rw [q, q2] at e; cases e
      | some ds =>
        rw [q, q2] at e
        cases e
        exact .cons (s.read h q) (s.readL t q2)
theorem Kf.mono {v : V} {d : D} (h : Kf K Z H v d) (zz : ∀ a, Z a → Z' a) : Kf K Z' H v d := by
  have p : Pers Z H Z' H := ⟨zz, fun _ _ _ h => h, fun _ _ h _ => h⟩
  cases d with
  | lst ds => obtain ⟨a, vs, e, ha, r⟩ := h; exact ⟨a, vs, e, ha, r.pers p⟩
  | dK ds => obtain ⟨a, vs, e, ha, e2, r⟩ := h; exact ⟨a, vs, e, ha, e2, r.pers p⟩
  | dT ds => obtain ⟨a, vs, e, ha, e2, r⟩ := h; exact ⟨a, vs, e, ha, e2, r.pers p⟩
  | set xs => exact h
  | non => exact Rp.pers p h
  | bl _ => exact Rp.pers p h
  | int _ => exact Rp.pers p h
  | str _ => exact Rp.pers p h
  | ty _ => exact Rp.pers p h
  | tup _ => exact Rp.pers p h
  | con _ => exact Rp.pers p h
  | scr _ => exact Rp.pers p h
theorem Kfs.mono {vs : List V} {ds : List D} (h : Kfs K Z H vs ds) (zz : ∀ a, Z a → Z' a) : Kfs K Z' H vs ds := by
  induction h with
  | nil => exact .nil
  | cons h _ ih => exact .cons (h.mono zz) ih
theorem S.kidsL : ∀ {vs : List V} {os : List Op} {rss : List (List Addr)} {ds : List D} {Z : Addr → Prop} {E E' : Ev} {R : Rs}, S K Z H σ E R → All3 (OV K Z H σ) vs os rss → (∀ a ∈ rss.flatten, ¬ ow R a) → rss.flatten.Nodup → akL E os = some (ds, E') →
    ∃ Zf R', S K Zf H σ E' R' ∧ Kfs K Zf H vs ds ∧ (∀ a, ow R' a → ow R a) ∧ (∀ a, Z a → Zf a) ∧ (∀ a, Zf a → Z a ∨ a ∈ rss.flatten ∨ ow R a)
  | _, _, _, _, Z, E, E', R, s, .nil, no, nd, e => by
    cases e
    exact ⟨Z, R, s, .nil, fun _ h => h, fun _ h => h, fun _ h => .inl h⟩
  | _, _, _, _, Z, E, E', R, s, .cons (a := v) (b := o) (bs := os) (c := rs) (cs := rss) h t, no, nd, e => by
    simp only [akL] at e
    rw [List.flatten_cons, List.nodup_append] at nd
    obtain ⟨n1, n2, n3⟩ := nd
    have no1 : ∀ a ∈ rs, ¬ ow R a := fun a m => no a (by rw [List.flatten_cons, List.mem_append]; exact .inl m)
    have no2 : ∀ a ∈ rss.flatten, ¬ ow R a := fun a m => no a (by rw [List.flatten_cons, List.mem_append]; exact .inr m)
    cases q : ak E o with
    | none => rw [q] at e; cases e
    | some p =>
      obtain ⟨d, E1⟩ := p
      rw [q] at e
      cases q2 : akL E1 os with
      | none => simp only [Option.bind_some, q2] at e; cases e
      | some p2 =>
        obtain ⟨ds, E2⟩ := p2
        simp only [Option.bind_some, q2, Option.map_some, Option.some.injEq, Prod.mk.injEq] at e
        obtain ⟨rfl, rfl⟩ := e
        obtain ⟨R1, s1, k1, sub1⟩ := s.kids h no1 q
        have t1 : All3 (OV K (fun a => (Z a ∨ a ∈ rs) ∨ (ow R a ∧ ¬ ow R1 a)) H σ) _ os rss := t.imp fun v' o' rs' m hh => by
          cases o' with
          | slot i => exact hh
          | val d' n' =>
            refine Own.keep ⟨fun _ h => .inl (.inl h), fun _ _ _ h => h, fun _ _ h _ => h⟩ (fun a ma => ⟨rfl, fun z => ?_⟩) hh
            rcases z with (z | z) | z
            · exact (Own.mut hh a ma).2 z
            · exact n3 a z a (mem_flatten_of m ma) rfl
            · exact no2 a (mem_flatten_of m ma) z.1
        obtain ⟨Zf, R2, s2, k2, sub2, zz2, zn2⟩ := S.kidsL s1 t1 (fun a m z => no2 a m (sub1 a z)) n2 q2
        refine ⟨Zf, R2, s2, .cons (k1.mono zz2) k2, fun a h => sub1 a (sub2 a h), fun a h => zz2 a (.inl (.inl h)), fun a h => ?_⟩
        rw [List.flatten_cons, List.mem_append]
        rcases zn2 a h with ((h | h) | h) | h | h
        · exact .inl h
        · exact .inr (.inl (.inl h))
        · exact .inr (.inr h.1)
        · exact .inr (.inl (.inr h))
        · exact .inr (.inr (sub1 a h))

/-- an operation that only reads, its end is unchangeable -/
def RO (K : PySem.W.Frag) (r : List V → Hp → VK → Prop) (g : List D → Option D) : Prop :=
  (∀ ds d, g ds = some d → imm d = true) ∧ ∀ (H : Hp) (vs : List V) (ds : List D) (d : D) (Q : VK), Rps K (fun _ => True) H vs ds → g ds = some d → (∀ v, Rp K (fun _ => True) H v d → Q v H) → r vs H Q
/-- an operation whose end may hold the items of what is given, and may be new -/
def AL (K : PySem.W.Frag) (r : List V → Hp → VK → Prop) (g : List D → Option (D × Nat)) : Prop :=
  ∀ (Z : Addr → Prop) (H : Hp) (vs : List V) (ds : List D) (d : D) (n : Nat) (Q : VK), (∀ a, Z a → H a ≠ none) → Kfs K Z H vs ds → g ds = some (d, n) →
    (∀ v H' rs, More H H' → Own K Z H' n v d rs → rs.Nodup → (∀ a ∈ rs, H a = none) → Q v H') → r vs H Q
def mRO (g : List D → Option D) (fa : Fa) : Fe := fun E => (fa E).bind fun p => (rdL p.2 p.1).bind fun ds => (g ds).map fun d => (.val d 9, p.2)
def mAL (g : List D → Option (D × Nat)) (fa : Fa) : Fe := fun E => (fa E).bind fun p => (akL p.2 p.1).bind fun q => (g q.1).map fun d => (.val d.1 d.2, q.2)
theorem ro_of {r : List V → Hp → VK → Prop} {g : List D → Option D} (h : RO K r g) {fa : Fa} {σ : L2.St} {H : Hp} {Q : VK} (q : eOf K (mRO g fa) σ H Q) : aOf K fa σ H fun vs H2 => r vs H2 Q := by
  obtain ⟨Z, E, R, s, o, E', e, q⟩ := q
  unfold mRO at e
  cases e1 : fa E with
  | none => rw [e1] at e; cases e
  | some p =>
    obtain ⟨os, E1⟩ := p
    rw [e1] at e
    simp only [Option.bind_some] at e
    cases e2 : rdL E1 os with
    | none => rw [e2] at e; cases e
    | some ds =>
      rw [e2] at e
      simp only [Option.bind_some] at e
      cases e3 : g ds with
      | none => rw [e3] at e; cases e
      | some d =>
        rw [e3] at e
        simp only [Option.map_some, Option.some.injEq, Prod.mk.injEq] at e
        obtain ⟨rfl, rfl⟩ := e
        refine ⟨Z, E, R, s, os, E1, e1, fun vs Z1 H1 R1 rss s1 t1 a1 f1 => ?_⟩
        refine h.2 H1 vs ds d Q (s1.readL a1 e2) e3 fun v rv => ?_
        exact q v Z1 H1 R1 [] s1 t1 (Own.ofImm (rv.immz (fun _ _ e _ => e) (h.1 ds d e3)) (h.1 ds d e3)) .nil
theorem al_of {r : List V → Hp → VK → Prop} {g : List D → Option (D × Nat)} (h : AL K r g) {fa : Fa} {σ : L2.St} {H : Hp} {Q : VK} (q : eOf K (mAL g fa) σ H Q) : aOf K fa σ H fun vs H2 => r vs H2 Q := by
  obtain ⟨Z, E, R, s, o, E', e, q⟩ := q
  unfold mAL at e
  cases e1 : fa E with
  | none => rw [e1] at e; cases e
  | some p =>
    obtain ⟨os, E1⟩ := p
    rw [e1] at e
    simp only [Option.bind_some] at e
    cases e2 : akL E1 os with
    | none => rw [e2] at e; cases e
    | some p2 =>
      obtain ⟨ds, E2⟩ := p2
      rw [e2] at e
      simp only [Option.bind_some] at e
      cases e3 : g ds with
      | none => rw [e3] at e; cases e
      | some d =>
        rw [e3] at e
        simp only [Option.map_some, Option.some.injEq, Prod.mk.injEq] at e
        obtain ⟨rfl, rfl⟩ := e
        refine ⟨Z, E, R, s, os, E1, e1, fun vs Z1 H1 R1 rss s1 t1 a1 f1 => ?_⟩
        obtain ⟨Zf, R2, s2, k2, sub2, zz2, zn2⟩ := s1.kidsL a1 f1.no f1.nd e2
        refine h Zf H1 vs ds d.1 d.2 Q s2.zd k2 e3 fun v H' rs m o nd nw => ?_
        have th : ∀ a, ow R2 a → H1 a ≠ none := fun a => s2.there
        refine q v Zf H' R2 rs (s2.more m) (t1.fin zz2 (fun a z => ?_) m fun a z => .inl (sub2 a z)) o ⟨nd, fun a ma z => th a z (nw a ma), fun a ma => ?_⟩
        · rcases zn2 a z with z | z | z
          · exact .inl z
          · rcases f1.of a z with z | z
            · exact .inr (.inr (.inl z))
            · exact .inr (.inr (.inr z))
          · exact .inr (.inl z)
        · by_cases c : H a = none
          · exact .inr c
          · exact absurd (nw a ma) (t1.dm a c)
/-- two arguments -/
def mA2 (a b : Fe) : Fa := fun E => (a E).bind fun p => (b p.2).bind fun q => some ([p.1, q.1], q.2)
def mA1 (a : Fe) : Fa := fun E => (a E).bind fun p => some ([p.1], p.2)
def mA0 : Fa := fun E => some ([], E)
def mAc (a : Fe) (b : Fa) : Fa := fun E => (a E).bind fun p => (b p.2).bind fun q => some (p.1 :: q.1, q.2)
theorem Fr.trans {R0 R1 R2 : Rs} {H0 H1 : Hp} {rs : List Addr} (a : Fr R1 H1 R2 rs) (on : ∀ x, ow R1 x → ow R0 x ∨ H0 x = none) (dm : ∀ x, H0 x ≠ none → H1 x ≠ none) : Fr R0 H0 R2 rs :=
  ⟨a.nd, a.no, fun x m => by
    rcases a.of x m with h | h
    · exact on x h
    · by_cases q : H0 x = none
      · exact .inr q
      · exact absurd h (dm x q)⟩
theorem aOf_c {fa : Fe} {fb : Fa} {σ : L2.St} {H : Hp} {Q : List V → Hp → Prop} (q : aOf K (mAc fa fb) σ H Q) : eOf K fa σ H fun x H1 => aOf K fb σ H1 fun xs H2 => Q (x :: xs) H2 := by
  obtain ⟨Z, E, R, s, os, E', e, q⟩ := q
  unfold mAc at e
  cases e1 : fa E with
  | none => rw [e1] at e; cases e
  | some p =>
    obtain ⟨o1, E1⟩ := p
    rw [e1] at e
    simp only [Option.bind_some] at e
    cases e2 : fb E1 with
    | none => rw [e2] at e; cases e
    | some p2 =>
      obtain ⟨os2, E2⟩ := p2
      rw [e2] at e
      simp only [Option.bind_some, Option.some.injEq, Prod.mk.injEq] at e
      obtain ⟨rfl, rfl⟩ := e
      refine ⟨Z, E, R, s, o1, E1, e1, fun v1 Z1 H1 R1 rs1 s1 t1 v1r f1 => ?_⟩
      refine ⟨Z1, E1, R1, s1, os2, E2, e2, fun vs2 Z2 H2 R2 rss2 s2 t2 v2r f2 => ?_⟩
      obtain ⟨p1, p2⟩ := s1.pendO t2 v1r f1.no
      refine q (v1 :: vs2) Z2 H2 R2 (rs1 :: rss2) s2 (t1.trans t2) (.cons p1 v2r) ⟨?_, fun a m => ?_, fun a m => ?_⟩
      · rw [List.flatten_cons, List.nodup_append]
        refine ⟨f1.nd, f2.nd, fun a m b m2 e => ?_⟩
        subst e
        rcases f2.of a m2 with z | z
        · exact f1.no a m z
        · exact OV.there v1r a m z
      · rw [List.flatten_cons, List.mem_append] at m
        rcases m with m | m
        · exact p2 a m
        · exact f2.no a m
      · rw [List.flatten_cons, List.mem_append] at m
        rcases m with m | m
        · exact f1.of a m
        · exact (f2.trans t1.on t1.dm).of a m
theorem aOf_0 {σ : L2.St} {H : Hp} {Q : List V → Hp → Prop} (q : aOf K mA0 σ H Q) : Q [] H := by
  obtain ⟨Z, E, R, s, os, E', e, q⟩ := q
  cases e
  exact q [] Z H R [] s .refl .nil .nil
theorem mA1_eq (a : Fe) : mA1 a = mAc a mA0 := by
  funext E; unfold mA1 mAc mA0
  cases a E <;> rfl
theorem mA2_eq (a b : Fe) : mA2 a b = mAc a (mA1 b) := by
  funext E; unfold mA2 mAc mA1
  cases a E with
  | none => rfl
  | some p => simp only [Option.bind_some]; cases b p.2 <;> rfl
theorem aOf_1 {fa : Fe} {σ : L2.St} {H : Hp} {Q : List V → Hp → Prop} (q : aOf K (mA1 fa) σ H Q) : eOf K fa σ H fun x H1 => Q [x] H1 := by
  rw [mA1_eq] at q
  obtain ⟨Z, E, R, s, o1, E1, e1, q⟩ := aOf_c q
  exact ⟨Z, E, R, s, o1, E1, e1, fun v Z' H' R' rs s' t' o' f' => aOf_0 (q v Z' H' R' rs s' t' o' f')⟩
theorem aOf_2 {fa fb : Fe} {σ : L2.St} {H : Hp} {Q : List V → Hp → Prop} (q : aOf K (mA2 fa fb) σ H Q) : eOf K fa σ H fun x H1 => eOf K fb σ H1 fun y H2 => Q [x, y] H2 := by
  rw [mA2_eq] at q
  obtain ⟨Z, E, R, s, o1, E1, e1, q⟩ := aOf_c q
  exact ⟨Z, E, R, s, o1, E1, e1, fun v Z' H' R' rs s' t' o' f' => aOf_1 (q v Z' H' R' rs s' t' o' f')⟩
end
end Zk
set_option maxHeartbeats 4000000
namespace L2
open PySem PySem.Spec PyProof.Rows
theorem tuple_mulW1 (l : Addr) (items : Array Value) (n : Nat) (dd : Option Addr) (sl : Array (Option Value)) (x : Int) (u : Tok) (c0 : (decide (x < -(2 ^ 63)) || decide (x ≥ 2 ^ 63)) = false) (c1 : (items.isEmpty || x == 1) = true) :
    Meets (Builtin.«tuple.__mul__» ⟨[.ref l, .int x u], []⟩) (fun _ R s => s.heap.get? l = some { cls := .type "tuple", dict := dd, data := .seq items n, slots := sl } ∧ R (.ok (.ret (Value.ref l))) s) :=
  .of_wp fun prog w A R s h => by
    obtain ⟨hp, g, d, tk, os⟩ := s
    obtain ⟨hl, h⟩ := h
    have f1 := AutoSeq1.idx_int
    wp_walk using wpAny_loadPart' hl
    repeat (first
      | (refine wpAny_ite_false (decide_eq_false (by rw [c0]; exact Bool.false_ne_true)) ?_; wp_walk using wpAny_loadPart' hl)
      | (refine wpAny_ite_true (decide_eq_true (by rw [c1])) ?_; wp_walk using wpAny_loadPart' hl))
    exact ⟨_, rfl, h⟩
theorem tuple_mulW0 (l : Addr) (items : Array Value) (n : Nat) (dd : Option Addr) (sl : Array (Option Value)) (x : Int) (u : Tok) (c0 : (decide (x < -(2 ^ 63)) || decide (x ≥ 2 ^ 63)) = false) (c1 : (items.isEmpty || x == 1) = false) (c2 : (decide (x ≤ 0) || items.isEmpty) = true) :
    Meets (Builtin.«tuple.__mul__» ⟨[.ref l, .int x u], []⟩) (fun _ R s => s.heap.get? l = some { cls := .type "tuple", dict := dd, data := .seq items n, slots := sl } ∧
      R (.ok (.ret (Value.ref s.heap.objs.size))) { s with heap := s.heap.push { cls := Value.type "tuple", data := Data.seq #[] }, toks := s.toks }) :=
  .of_wp fun prog w A R s h => by
    obtain ⟨hp, g, d, tk, os⟩ := s
    obtain ⟨hl, h⟩ := h
    have f1 := AutoSeq1.idx_int
    wp_walk using wpAny_loadPart' hl
    repeat (first
      | (refine wpAny_ite_false (decide_eq_false (by rw [c0]; exact Bool.false_ne_true)) ?_; wp_walk using wpAny_loadPart' hl)
      | (refine wpAny_ite_false (decide_eq_false (by rw [c1]; exact Bool.false_ne_true)) ?_; wp_walk using wpAny_loadPart' hl)
      | (refine wpAny_ite_true (decide_eq_true (by rw [c2])) ?_; wp_walk using wpAny_loadPart' hl))
    exact ⟨_, rfl, h⟩
/-- a tuple 0 times, once, often -/
def rRepA (K : PySem.W.Frag) : R2 := fun x y H Q => ∃ l k xs, x = .ref l ∧ y = .int k ∧ SqT K H l xs ∧ xs ≠ [] ∧ 0 ≤ k ∧ k ≤ 1000 ∧ xs.length ≤ 1000 ∧ (k = 1 → Q (.ref l) H) ∧ (k ≠ 1 → ∀ p, H p = none → Q (.ref p) (upd H p (.tup (List.replicate k.toNat xs).flatten)))
section
variable {X : Cx}
theorem op_repA : OpR X (binaryOp .Mult) (rRepA X.K) := by
  intro pins s σ H x y v u Q I rx ry h
  obtain ⟨l, k, xs, rfl, rfl, hT, hne, h1, h2, hz, q1, q⟩ := h
  by_cases k2 : 2 ≤ k
  · exact op_repT pins s σ H _ _ v u Q I rx ry ⟨l, k, xs, rfl, rfl, hT, hne, k2, h2, hz, q (by omega)⟩
  cases rx
  obtain ⟨t, rfl⟩ := ry
  obtain ⟨its, r, ⟨⟨cls, dd, data, sl⟩, ho, hc, n, hd⟩, hs⟩ := I.tuple hT
  simp only at hc hd
  subst hc hd
  have hle : its.length = xs.length := r.length.symm
  have hn : its ≠ [] := fun e => hne (by
    rw [e] at hle
    exact List.eq_nil_of_length_eq_zero hle.symm)
  have hi : its.toArray.isEmpty = false := by
    cases its with
    | nil => exact absurd rfl hn
    | cons a b => rfl
  have c0 : (decide (k < -(2 ^ 63)) || decide (k ≥ 2 ^ 63)) = false := by
    rw [decide_eq_false (by omega), decide_eq_false (by omega)] <;> rfl
  by_cases e1 : k = 1
  · subst e1
    have c1 : (its.toArray.isEmpty || (1 : Int) == 1) = true := by rw [hi]; rfl
    refine wpAny_binaryOp_repeat_ref (T := "tuple") (U := "int") (by decide) ⟨_, ho, rfl⟩ (fun s' => typeIs_int s' 1 t) noFill_tuple_mul F.fills_int_mul F.slot_int_rmul repeat_tuple F.slot_int_index.lookup
      (call_meets F.slot_int_rmul (typeIs_int s 1 t) F.entry_int_rmul (F.args_int_rmul_2 _ _) (int_rmul_tuple 1 t l its.toArray n dd sl)
        ⟨ho, rfl, ⟨_, ho, rfl⟩, call_meets F.slot_tuple_mul ⟨_, ho, rfl⟩ F.entry_tuple_mul (F.args_tuple_mul_2 _ _) (tuple_mulW1 l its.toArray n dd sl 1 t c0 c1) ⟨ho, ?_⟩⟩)
    exact ⟨.ref l, H, I, rfl, q1 rfl⟩
  · have e0 : k = 0 := by omega
    subst e0
    have c1 : (its.toArray.isEmpty || (0 : Int) == 1) = false := by rw [hi]; rfl
    have c2 : (decide ((0 : Int) ≤ 0) || its.toArray.isEmpty) = true := by rw [decide_eq_true (by omega)]; rfl
    refine wpAny_binaryOp_repeat_ref (T := "tuple") (U := "int") (by decide) ⟨_, ho, rfl⟩ (fun s' => typeIs_int s' 0 t) noFill_tuple_mul F.fills_int_mul F.slot_int_rmul repeat_tuple F.slot_int_index.lookup
      (call_meets F.slot_int_rmul (typeIs_int s 0 t) F.entry_int_rmul (F.args_int_rmul_2 _ _) (int_rmul_tuple 0 t l its.toArray n dd sl)
        ⟨ho, rfl, ⟨_, ho, rfl⟩, call_meets F.slot_tuple_mul ⟨_, ho, rfl⟩ F.entry_tuple_mul (F.args_tuple_mul_2 _ _) (tuple_mulW0 l its.toArray n dd sl 0 t c0 c1 c2) ⟨ho, ?_⟩⟩)
    refine ⟨.ref s.heap.objs.size, _, I.laid (t' := s.toks) (o := .tup (List.replicate (0 : Int).toNat xs).flatten) (fun b ob q => Heap.get?_push_of_some _ q) (Nat.le_refl _) ?_, rfl, q (by decide) _ (I.hok.fresh (Nat.le_refl _))⟩
    exact ⟨by simp, _, r.rep 0, IsTup.new _ _⟩
end
end L2
namespace Zk
open PySem PySem.Spec PyProof.Rows L2

/-- a bound that nothing here comes near to; never reckoned -/
@[irreducible] def bigE : Nat := 60000000
theorem bigE_eq : bigE = 60000000 := by unfold bigE; rfl
theorem big_ex (e : Nat) : ∃ n : Nat, n = 2 ^ e := ⟨_, rfl⟩
noncomputable def big : Nat := Classical.choose (big_ex bigE)
theorem big_def : big = 2 ^ bigE := Classical.choose_spec (big_ex bigE)
theorem big_of {n k : Nat} (h : n < 2 ^ k) (hk : k ≤ 60000000) : n < big := by
  rw [big_def]
  exact Nat.lt_of_lt_of_le h (Nat.pow_le_pow_right (by decide) (by rw [bigE_eq]; exact hk))
theorem big_mul {i j : Int} (h1 : i.natAbs < big) (h2 : j.natAbs < big) : CMulX i j := by
  rw [big_def] at h1 h2
  exact mulx_ok h1 h2 (by rw [bigE_eq]; decide)

section
variable {X : Cx}
def mVar (i : Nat) : Fe := fun E => if (eg E i).isSome = true then some (.slot i, E) else none
def mC (d : D) : Fe := fun E => some (.val d 9, E)
theorem ae_var (i : Nat) {x : Str} {pos : PySem.Pos} (hN : X.N[i]? = some x := by rfl) (hv : Vis X.env.scope x := by first | exact Or.inl rfl | exact Or.inr (Or.inl rfl) | exact Or.inr (Or.inr rfl)) (hd : (x == ("__debug__" : Str)) = false := by decide)
    (hcd : (x == ("__classdict__" : Str)) = false := by decide) : AE X (.Name x pos) (mVar i) := by
  refine PE.mono (pe_var hN hv hd hcd) fun σ H Q q => ?_
  obtain ⟨Z, E, R, s, o, E', e, q⟩ := q
  unfold mVar at e
  split at e
  · rename_i hs
    cases e
    cases q2 : eg E i with
    | none => rw [q2] at hs; simp at hs
    | some dn =>
      obtain ⟨v, e1, o1⟩ := s.slot i dn.1 dn.2 q2
      exact ⟨v, e1, q v Z H R [] s .refl ⟨e1, rfl⟩ .nil⟩
  · cases e
theorem mC_of {K : PySem.W.Frag} {d : D} {v : V} (h : ∀ Z H, Rp K Z H v d) (hi : imm d = true) {σ : L2.St} {H : Hp} {Q : VK} (q : eOf K (mC d) σ H Q) : tC v σ H Q := by
  obtain ⟨Z, E, R, s, o, E', e, q⟩ := q
  cases e
  exact q v Z H R [] s .refl (Own.ofImm (h Z H) hi) .nil
theorem ae_int {i : Int} {j pos} : AE X (.Constant (.int i) j pos) (mC (.int i)) := PE.mono pe_int fun _ _ _ q => mC_of (fun _ _ => .int i) (by simp) q
theorem ae_bl {b j pos} : AE X (.Constant (.bool b) j pos) (mC (.bl b)) := PE.mono pe_bl fun _ _ _ q => mC_of (fun _ _ => .bl b) (by simp) q
theorem ae_non {j pos} : AE X (.Constant .none j pos) (mC .non) := PE.mono pe_non fun _ _ _ q => mC_of (fun _ _ => .non) (by simp) q
end

section
variable {K : PySem.W.Frag} {fa fb : Fe} {σ : L2.St} {H : Hp} {Q : VK}
def two (r : R2) : List V → Hp → VK → Prop := fun vs H Q => ∃ x y, vs = [x, y] ∧ r x y H Q
theorem tOp_al {r : R2} {g : List D → Option (D × Nat)} (h : AL K (two r) g) (q : eOf K (mAL g (mA2 fa fb)) σ H Q) : tOp r (eOf K fa) (eOf K fb) σ H Q := by
  have z := aOf_2 (al_of h q)
  obtain ⟨Z, E, R, s, o1, E1, e1, z⟩ := z
  refine ⟨Z, E, R, s, o1, E1, e1, fun v Z' H' R' rs s' t' o' f' => ?_⟩
  obtain ⟨Z2, E2, R2, s2, o2, E3, e2, z2⟩ := z v Z' H' R' rs s' t' o' f'
  refine ⟨Z2, E2, R2, s2, o2, E3, e2, fun v2 Z3 H3 R3 rs3 s3 t3 o3 f3 => ?_⟩
  obtain ⟨x, y, e, q⟩ := z2 v2 Z3 H3 R3 rs3 s3 t3 o3 f3
  cases e
  exact q
theorem tOp_ro {r : R2} {g : List D → Option D} (h : RO K (two r) g) (q : eOf K (mRO g (mA2 fa fb)) σ H Q) : tOp r (eOf K fa) (eOf K fb) σ H Q := by
  have z := aOf_2 (ro_of h q)
  obtain ⟨Z, E, R, s, o1, E1, e1, z⟩ := z
  refine ⟨Z, E, R, s, o1, E1, e1, fun v Z' H' R' rs s' t' o' f' => ?_⟩
  obtain ⟨Z2, E2, R2, s2, o2, E3, e2, z2⟩ := z v Z' H' R' rs s' t' o' f'
  refine ⟨Z2, E2, R2, s2, o2, E3, e2, fun v2 Z3 H3 R3 rs3 s3 t3 o3 f3 => ?_⟩
  obtain ⟨x, y, e, q⟩ := z2 v2 Z3 H3 R3 rs3 s3 t3 o3 f3
  cases e
  exact q
theorem Rps.two {Z : Addr → Prop} {vs : List V} {d e : D} (h : Rps K Z H vs [d, e]) : ∃ x y, vs = [x, y] ∧ Rp K Z H x d ∧ Rp K Z H y e := by
  cases h with
  | cons h t =>
    cases t with
    | cons h2 t2 => cases t2; exact ⟨_, _, rfl, h, h2⟩
theorem Rps.one {Z : Addr → Prop} {vs : List V} {d : D} (h : Rps K Z H vs [d]) : ∃ x, vs = [x] ∧ Rp K Z H x d := by
  cases h with
  | cons h t => cases t; exact ⟨_, rfl, h⟩
theorem Kfs.two {Z : Addr → Prop} {vs : List V} {d e : D} (h : Kfs K Z H vs [d, e]) : ∃ x y, vs = [x, y] ∧ Kf K Z H x d ∧ Kf K Z H y e := by
  cases h with
  | cons h t =>
    cases t with
    | cons h2 t2 => cases t2; exact ⟨_, _, rfl, h, h2⟩
theorem Kfs.one {Z : Addr → Prop} {vs : List V} {d : D} (h : Kfs K Z H vs [d]) : ∃ x, vs = [x] ∧ Kf K Z H x d := by
  cases h with
  | cons h t => cases t; exact ⟨_, rfl, h⟩
theorem Rp.intE {Z : Addr → Prop} {v : V} {i : Int} (h : Rp K Z H v (.int i)) : v = .int i := by cases h; rfl
theorem Rp.blE {Z : Addr → Prop} {v : V} {i : Bool} (h : Rp K Z H v (.bl i)) : v = .bl i := by cases h; rfl
theorem Rp.strE {Z : Addr → Prop} {v : V} {i : Str} (h : Rp K Z H v (.str i)) : v = .str i := by cases h; rfl
theorem Rp.nonE {Z : Addr → Prop} {v : V} (h : Rp K Z H v .non) : v = .non := by cases h; rfl
/-- two ints to an int -/
def gI2 (c : Int → Int → Prop) [∀ i j, Decidable (c i j)] (f : Int → Int → Int) : List D → Option D
  | [.int i, .int j] => if c i j then some (.int (f i j)) else none
  | _ => none
theorem ro_I2 {c C : Int → Int → Prop} [∀ i j, Decidable (c i j)] {f : Int → Int → Int} {g : Int → Int → V} (hc : ∀ i j, c i j → C i j) (hf : ∀ i j, c i j → g i j = .int (f i j)) : RO K (two (rI C g)) (gI2 c f) := by
  refine ⟨fun ds d e => ?_, fun H vs ds d Q r e q => ?_⟩
  · unfold gI2 at e
    split at e
    · split at e
      · cases e; simp
      · cases e
    · cases e
  · unfold gI2 at e
    split at e
    · split at e
      · rename_i i j h
        cases e
        obtain ⟨x, y, rfl, h1, h2⟩ := r.two
        exact ⟨x, y, rfl, i, j, h1.intE, h2.intE, hc i j h, by rw [hf i j h]; exact q _ (.int _)⟩
      · cases e
    · cases e
theorem ro_I20 {f : Int → Int → Int} : RO K (two (rI0 fun i j => .int (f i j))) (gI2 (fun _ _ => True) f) := by
  refine ⟨fun ds d e => ?_, fun H vs ds d Q r e q => ?_⟩
  · unfold gI2 at e
    split at e
    · rw [if_pos trivial] at e; cases e; simp
    · cases e
  · unfold gI2 at e
    split at e
    · rename_i i j
      rw [if_pos trivial] at e
      cases e
      obtain ⟨x, y, rfl, h1, h2⟩ := r.two
      exact ⟨x, y, rfl, i, j, h1.intE, h2.intE, q _ (.int _)⟩
    · cases e
def gB2 (f : Int → Int → Bool) : List D → Option D
  | [.int i, .int j] => some (.bl (f i j))
  | _ => none
theorem ro_B20 {f : Int → Int → Bool} : RO K (two (rI0 fun i j => .bl (f i j))) (gB2 f) := by
  refine ⟨fun ds d e => ?_, fun H vs ds d Q r e q => ?_⟩
  · unfold gB2 at e
    split at e
    · cases e; simp
    · cases e
  · unfold gB2 at e
    split at e
    · rename_i i j
      cases e
      obtain ⟨x, y, rfl, h1, h2⟩ := r.two
      exact ⟨x, y, rfl, i, j, h1.intE, h2.intE, q _ (.bl _)⟩
    · cases e
/-- how deep a new list of things is ours -/
def lev (ds : List D) : Nat := if imms ds = true then 9 else 1
theorem Own.newL {Z : Addr → Prop} {H : Hp} {p : Addr} {vs : List V} {ds : List D} (hz : ∀ a, Z a → H a ≠ none) (hp : H p = none) (r : Rps K Z H vs ds) : Own K Z (upd H p (.lst vs)) (lev ds) (.ref p) (.lst ds) [p] := by
  have r' : Rps K Z (upd H p (.lst vs)) vs ds := r.pers ((More.upd hp).pers fun _ h => h)
  have nz : ¬ Z p := fun z => hz p z hp
  unfold lev
  split
  · rename_i i
    exact ⟨p, vs, _, rfl, upd_same, nz, All3.ofRpsI r' i, by rw [flat_nils]⟩
  · exact ⟨p, vs, _, rfl, upd_same, nz, All3.ofRps0 r', by rw [flat_nils]⟩
theorem Own.newT {Z : Addr → Prop} {H : Hp} {p : Addr} {vs : List V} {ds : List D} (hp : H p = none) (r : Rps K Z H vs ds) : Own K Z (upd H p (.tup vs)) 0 (.ref p) (.tup ds) [] :=
  ⟨rfl, .tup upd_same (r.pers ((More.upd hp).pers fun _ h => h))⟩
/-- what follows a new list, a new tuple -/
theorem fin_lst {Z : Addr → Prop} {H : Hp} {vs : List V} {ds : List D} {Q : VK} (hz : ∀ a, Z a → H a ≠ none) (r : Rps K Z H vs ds)
    (q : ∀ v H' rs, More H H' → Own K Z H' (lev ds) v (.lst ds) rs → rs.Nodup → (∀ a ∈ rs, H a = none) → Q v H') : ∀ p, H p = none → Q (.ref p) (upd H p (.lst vs)) := fun p hp =>
  q _ _ [p] (.upd hp) (.newL hz hp r) (by simp) (fun a m => by
    have e : a = p := by simpa using m
    rw [e]
    exact hp)
theorem fin_tup {Z : Addr → Prop} {H : Hp} {vs : List V} {ds : List D} {Q : VK} (r : Rps K Z H vs ds)
    (q : ∀ v H' rs, More H H' → Own K Z H' 0 v (.tup ds) rs → rs.Nodup → (∀ a ∈ rs, H a = none) → Q v H') : ∀ p, H p = none → Q (.ref p) (upd H p (.tup vs)) := fun p hp =>
  q _ _ [] (.upd hp) (.newT hp r) List.nodup_nil fun a m => by simp at m
theorem fin_imm {Z : Addr → Prop} {H : Hp} {v : V} {d : D} {n : Nat} {Q : VK} (r : Rp K Z H v d) (i : imm d = true) (q : ∀ v H' rs, More H H' → Own K Z H' n v d rs → rs.Nodup → (∀ a ∈ rs, H a = none) → Q v H') : Q v H :=
  q _ _ [] (.refl _) (.ofImm r i) List.nodup_nil fun a m => by simp at m
/-- + -/
def gAdd : List D → Option (D × Nat)
  | [.int i, .int j] => some (.int (i + j), 9)
  | [.tup a, .tup b] => if a.length + b.length ≤ sizeLine then some (.tup (a ++ b), 0) else none
  | [.lst a, .lst b] => if a.length + b.length ≤ sizeLine then some (.lst (a ++ b), lev (a ++ b)) else none
  | [.str a, .str b] => if a.length + b.length ≤ sizeLine then some (.str (a ++ b), 9) else none
  | _ => none
def rAdds (K : PySem.W.Frag) : R2 := fun x y H Q => rI0 (fun i j => .int (i + j)) x y H Q ∨ rCatA K x y H Q ∨ rCat x y H Q ∨ (∃ i j, x = .str i ∧ y = .str j ∧ i.length + j.length ≤ sizeLine ∧ Q (.str (i ++ j)) H)
theorem al_add : AL K (two (rAdds K)) gAdd := by
  intro Z H vs ds d n Q hz r e q
  unfold gAdd at e
  split at e
  · cases e
    obtain ⟨x, y, rfl, h1, h2⟩ := r.two
    refine ⟨x, y, rfl, .inl ⟨_, _, Rp.intE h1, Rp.intE h2, ?_⟩⟩
    exact fin_imm (Z := Z) (.int _) (by simp) q
  · rename_i a b
    split at e
    · rename_i hl
      cases e
      obtain ⟨x, y, rfl, h1, h2⟩ := r.two
      cases h1 with
      | tup s1 r1 =>
        cases h2 with
        | tup s2 r2 =>
          rename_i p1 xs p2 ys
          refine ⟨_, _, rfl, .inr (.inl ⟨p1, p2, xs, ys, rfl, rfl, .of s1, .of s2, by rw [r1.len, r2.len]; exact hl, fun z => ?_, fun z1 z2 => ?_, fun z1 z2 => ?_⟩)⟩
          · subst z
            cases r1
            exact q _ _ [] (.refl _) ⟨rfl, .tup s2 (by simpa using r2)⟩ List.nodup_nil fun a m => by simp at m
          · subst z2
            cases r2
            exact q _ _ [] (.refl _) ⟨rfl, .tup s1 (by simpa using r1)⟩ List.nodup_nil fun a m => by simp at m
          · exact fin_tup (r1.append r2) q
    · cases e
  · rename_i a b
    split at e
    · rename_i hl
      cases e
      obtain ⟨x, y, rfl, ⟨p1, xs, rfl, s1, r1⟩, ⟨p2, ys, rfl, s2, r2⟩⟩ := r.two
      exact ⟨_, _, rfl, .inr (.inr (.inl ⟨p1, p2, xs, ys, rfl, rfl, s1, s2, by rw [r1.len, r2.len]; exact hl, fin_lst hz (r1.append r2) q⟩))⟩
    · cases e
  · split at e
    · rename_i hl
      cases e
      obtain ⟨x, y, rfl, h1, h2⟩ := r.two
      refine ⟨x, y, rfl, .inr (.inr (.inr ⟨_, _, Rp.strE h1, Rp.strE h2, hl, ?_⟩))⟩
      exact fin_imm (Z := Z) (.str _) (by simp) q
    · cases e
  · cases e
/-- * of ints; a list as often as told -/
noncomputable def gMul : List D → Option (D × Nat)
  | [.int i, .int j] => if i.natAbs < big ∧ j.natAbs < big then some (.int (i * j), 9) else none
  | [.lst a, .int k] => if -(2 ^ 63) ≤ k ∧ k < 2 ^ 63 ∧ a.length * k.toNat ≤ sizeLine then some (.lst (List.replicate k.toNat a).flatten, lev (List.replicate k.toNat a).flatten) else none
  | [.tup a, .int k] => if a.isEmpty = false ∧ 0 ≤ k ∧ k ≤ 1000 ∧ a.length ≤ 1000 then some (.tup (List.replicate k.toNat a).flatten, 0) else none
  | _ => none
theorem Rps.rep {Z : Addr → Prop} {vs : List V} {ds : List D} (h : Rps K Z H vs ds) : ∀ k : Nat, Rps K Z H (List.replicate k vs).flatten (List.replicate k ds).flatten
  | 0 => by simp; exact .nil
  | k + 1 => by rw [List.replicate_succ, List.replicate_succ, List.flatten_cons, List.flatten_cons]; exact h.append (Rps.rep h k)
theorem al_mul : AL K (two (fun x y H Q => rI CMulX (fun i j => .int (i * j)) x y H Q ∨ rRep x y H Q ∨ rRepA K x y H Q)) gMul := by
  intro Z H vs ds d n Q hz r e q
  unfold gMul at e
  split at e
  · split at e
    · rename_i h
      cases e
      obtain ⟨x, y, rfl, h1, h2⟩ := r.two
      refine ⟨x, y, rfl, .inl ⟨_, _, Rp.intE h1, Rp.intE h2, big_mul h.1 h.2, ?_⟩⟩
      exact fin_imm (Z := Z) (.int _) (by simp) q
    · cases e
  · split at e
    · rename_i h
      cases e
      obtain ⟨x, y, rfl, ⟨p1, xs, rfl, s1, r1⟩, h2⟩ := r.two
      cases Rp.intE h2
      exact ⟨_, _, rfl, .inr (.inl ⟨p1, _, xs, rfl, rfl, s1, h.1, h.2.1, by rw [r1.len]; exact h.2.2, fin_lst hz (r1.rep _) q⟩)⟩
    · cases e
  · split at e
    · rename_i h
      cases e
      obtain ⟨x, y, rfl, h1, h2⟩ := r.two
      cases Rp.intE h2
      cases h1 with
      | tup s r1 =>
        rename_i vs
        exact ⟨_, _, rfl, .inr (.inr ⟨_, _, vs, rfl, rfl, .of s, fun e => by rw [e] at r1; cases r1; exact absurd h.1 (by simp), h.2.1, h.2.2.1, by rw [r1.len]; exact h.2.2.2, fun k1 => by subst k1; exact q _ _ [] (.refl _) ⟨rfl, .tup s (by simpa using r1)⟩ List.nodup_nil fun a m => by simp at m, fun _ => fin_tup (r1.rep _) q⟩)⟩
    · cases e
  · cases e
end
section
variable {X : Cx} {a b : Expr} {fa fb : Fe} {pos : PySem.Pos}
def mAdd (a b : Fe) : Fe := mAL gAdd (mA2 a b)
noncomputable def mMul (a b : Fe) : Fe := mAL gMul (mA2 a b)
theorem ae_add (ha : AE X a fa) (hb : AE X b fb) : AE X (.BinOp a .Add b pos) (mAdd fa fb) :=
  PE.mono (pe_op (op_add.or (op_catA.or (op_cat.or op_add_str))) ha hb) fun _ _ _ q => tOp_al al_add q
theorem ae_mul (ha : AE X a fa) (hb : AE X b fb) : AE X (.BinOp a .Mult b pos) (mMul fa fb) :=
  PE.mono (pe_op (op_mulX.or (op_rep.or op_repA)) ha hb) fun _ _ _ q => tOp_al al_mul q
abbrev gSub := gI2 (fun _ _ => True) fun i j => i - j
def mSub (a b : Fe) : Fe := mRO gSub (mA2 a b)
theorem ae_sub (ha : AE X a fa) (hb : AE X b fb) : AE X (.BinOp a .Sub b pos) (mSub fa fb) := PE.mono (pe_op op_sub ha hb) fun _ _ _ q => tOp_ro ro_I20 q
/-- a divisor above 0 -/
def divOk (_ j : Int) : Prop := 0 < j ∧ j < 2 ^ 8000
instance (i j : Int) : Decidable (divOk i j) := inferInstanceAs (Decidable (_ ∧ _))
theorem divOk_w {i j : Int} (h : divOk i j) : CDivW i j := wide_div (b := 8000) h.1 (by have := h.1; have := h.2; omega) (by decide) (by decide)
abbrev gDiv := gI2 divOk fun i j => i / j
def mDiv (a b : Fe) : Fe := mRO gDiv (mA2 a b)
theorem ae_div (ha : AE X a fa) (hb : AE X b fb) : AE X (.BinOp a .FloorDiv b pos) (mDiv fa fb) := PE.mono (pe_op op_fdivW ha hb) fun _ _ _ q => tOp_ro (ro_I2 (fun _ _ h => divOk_w h) fun _ _ _ => rfl) q
abbrev gMod := gI2 (fun _ j => 0 < j) fun i j => i % j
def mMod (a b : Fe) : Fe := mRO gMod (mA2 a b)
theorem ae_mod (ha : AE X a fa) (hb : AE X b fb) : AE X (.BinOp a .Mod b pos) (mMod fa fb) := PE.mono (pe_op op_mod ha hb) fun _ _ _ q => tOp_ro (ro_I2 (fun _ _ h => h) fun _ _ _ => rfl) q
abbrev gPow := gI2 (fun i j => 0 ≤ j ∧ j ≤ 1000000 ∧ i.natAbs < 2 ^ 64) fun i j => i ^ j.toNat
def mPow (a b : Fe) : Fe := mRO gPow (mA2 a b)
instance (i j : Int) : Decidable (CPow i j) := inferInstanceAs (Decidable (_ ∧ _ ∧ _))
theorem ae_pow (ha : AE X a fa) (hb : AE X b fb) : AE X (.BinOp a .Pow b pos) (mPow fa fb) := PE.mono (pe_op op_pow ha hb) fun _ _ _ q => tOp_ro (ro_I2 (fun _ _ h => h) fun _ _ _ => rfl) q
noncomputable abbrev gShl := gI2 (fun i j => 0 ≤ j ∧ j ≤ 1000000 ∧ i.natAbs < big) fun i j => i * 2 ^ j.toNat
theorem shl_big {i j : Int} (h : 0 ≤ j ∧ j ≤ 1000000 ∧ i.natAbs < big) : CShl i j := by
  obtain ⟨h1, h2, h3⟩ := h
  rw [big_def] at h3
  have := shl_ok (i := i) (j := j.toNat) h3 (by rw [bigE_eq]; omega)
  rwa [Int.toNat_of_nonneg h1] at this
noncomputable def mShl (a b : Fe) : Fe := mRO gShl (mA2 a b)
theorem ae_shl (ha : AE X a fa) (hb : AE X b fb) : AE X (.BinOp a .LShift b pos) (mShl fa fb) := PE.mono (pe_op op_shlW ha hb) fun _ _ _ q => tOp_ro (ro_I2 (fun _ _ h => shl_big h) fun _ _ _ => rfl) q
abbrev gShr := gI2 (fun _ j => 0 ≤ j) fun i j => i / 2 ^ j.toNat
def mShr (a b : Fe) : Fe := mRO gShr (mA2 a b)
theorem ae_shr (ha : AE X a fa) (hb : AE X b fb) : AE X (.BinOp a .RShift b pos) (mShr fa fb) := PE.mono (pe_op op_shr ha hb) fun _ _ _ q => tOp_ro (ro_I2 (fun _ _ h => h) fun _ _ _ => rfl) q
def mAnd (a b : Fe) : Fe := mRO (gI2 (fun _ _ => True) Builtin.bitAnd) (mA2 a b)
theorem ae_and (ha : AE X a fa) (hb : AE X b fb) : AE X (.BinOp a .BitAnd b pos) (mAnd fa fb) := PE.mono (pe_op op_and ha hb) fun _ _ _ q => tOp_ro ro_I20 q
def mLt (a b : Fe) : Fe := mRO (gB2 fun i j => decide (i < j)) (mA2 a b)
def mLe (a b : Fe) : Fe := mRO (gB2 fun i j => decide (i ≤ j)) (mA2 a b)
def mGt (a b : Fe) : Fe := mRO (gB2 fun i j => decide (j < i)) (mA2 a b)
def mGe (a b : Fe) : Fe := mRO (gB2 fun i j => decide (j ≤ i)) (mA2 a b)
/-- -a -/
def gNeg : List D → Option D
  | [.int i] => some (.int (-i))
  | _ => none
def mNeg (a : Fe) : Fe := mRO gNeg (mA1 a)
theorem tUn_ro {K : PySem.W.Frag} {σ : L2.St} {H : Hp} {Q : VK} {r : V → Hp → VK → Prop} {g : List D → Option D} (h : RO K (fun vs H Q => ∃ x, vs = [x] ∧ r x H Q) g) (q : eOf K (mRO g (mA1 fa)) σ H Q) : tUn r (eOf K fa) σ H Q := by
  obtain ⟨Z, E, R, s, o1, E1, e1, z⟩ := aOf_1 (ro_of h q)
  refine ⟨Z, E, R, s, o1, E1, e1, fun v Z' H' R' rs s' t' o' f' => ?_⟩
  obtain ⟨x, e, q⟩ := z v Z' H' R' rs s' t' o' f'
  cases e
  exact q
theorem ae_neg (ha : AE X a fa) : AE X (.UnaryOp .USub a pos) (mNeg fa) := PE.mono (pe_un un_neg ha) fun _ _ _ q => tUn_ro (by
  refine ⟨fun ds d e => ?_, fun H vs ds d Q r e q => ?_⟩
  · unfold gNeg at e
    split at e
    · cases e; simp
    · cases e
  · unfold gNeg at e
    split at e
    · cases e
      obtain ⟨x, rfl, h⟩ := r.one
      exact ⟨x, rfl, _, h.intE, q _ (.int _)⟩
    · cases e) q
end
end Zk
namespace Zk
open PySem PySem.Spec PyProof.Rows L2

/-- comparable data, at most n levels -/
def dat : Nat → D → Bool
  | _, .non => true
  | _, .bl _ => true
  | _, .int _ => true
  | _, .str x => PyData.strOk x
  | n + 1, .tup xs => xs.all (dat n)
  | n + 1, .con xs => xs.all (dat n)
  | n + 1, .lst xs => xs.all (dat n)
  | _, _ => false
mutual
def py : D → PyData
  | .non => .none
  | .bl b => .bool b
  | .int i => .int i
  | .str x => .str x
  | .ty _ => .none
  | .tup xs => .tuple (pys xs)
  | .con xs => .tuple (pys xs)
  | .lst xs => .list (pys xs)
  | .dK _ => .none
  | .dT _ => .none
  | .set _ => .none
  | .scr _ => .none
def pys : List D → List PyData
  | [] => []
  | d :: ds => py d :: pys ds
end
theorem pys_map : ∀ ds : List D, pys ds = ds.map py
  | [] => by simp [pys]
  | d :: ds => by simp [pys, pys_map ds]
theorem canAll : ∀ (n : Nat) (xs : List D), (∀ d, dat n d = true → (py d).canLay0 = true ∧ (py d).depth ≤ n) → xs.all (dat n) = true → PyData.canLayAll0 (pys xs) = true ∧ PyData.depthAll (pys xs) ≤ n
  | n, [], _, _ => by simp [pys, PyData.canLayAll0, PyData.depthAll]
  | n, d :: ds, h, a => by
    simp only [List.all_cons, Bool.and_eq_true] at a
    obtain ⟨h1, h2⟩ := h d a.1
    obtain ⟨h3, h4⟩ := canAll n ds h a.2
    simp only [pys, PyData.canLayAll0, PyData.depthAll, h1, h3, Bool.and_self, true_and]
    omega
theorem dat_lay : ∀ (n : Nat) (d : D), dat n d = true → (py d).canLay0 = true ∧ (py d).depth ≤ n
  | n, .non, _ => by simp [py, PyData.canLay0, PyData.depth]
  | n, .bl _, _ => by simp [py, PyData.canLay0, PyData.depth]
  | n, .int _, _ => by simp [py, PyData.canLay0, PyData.depth]
  | n, .str x, h => by
    have h : PyData.strOk x = true := by cases n <;> simpa [dat] using h
    simp [py, PyData.canLay0, PyData.depth, h]
  | n + 1, .tup xs, h => by
    simp only [dat] at h
    obtain ⟨h1, h2⟩ := canAll n xs (dat_lay n) h
    simp only [py, PyData.canLay0, PyData.depth, h1, true_and]
    omega
  | n + 1, .con xs, h => by
    simp only [dat] at h
    obtain ⟨h1, h2⟩ := canAll n xs (dat_lay n) h
    simp only [py, PyData.canLay0, PyData.depth, h1, true_and]
    omega
  | 0, .con _, h => by simp [dat] at h
  | n + 1, .lst xs, h => by
    simp only [dat] at h
    obtain ⟨h1, h2⟩ := canAll n xs (dat_lay n) h
    simp only [py, PyData.canLay0, PyData.depth, h1, true_and]
    omega
  | 0, .tup _, h => by simp [dat] at h
  | 0, .lst _, h => by simp [dat] at h
  | 0, .dK _, h => by simp [dat] at h
  | n, .ty _, h => by cases n <;> simp [dat] at h
  | 0, .dT _, h => by simp [dat] at h
  | 0, .set _, h => by simp [dat] at h
  | 0, .scr _, h => by simp [dat] at h
  | _ + 1, .dK _, h => by simp [dat] at h
  | _ + 1, .dT _, h => by simp [dat] at h
  | _ + 1, .set _, h => by simp [dat] at h
  | _ + 1, .scr _, h => by simp [dat] at h
theorem dat_shaped {d : D} (h : dat 64 d = true) : SeqAt.shaped (py d) = true := by
  obtain ⟨h1, h2⟩ := dat_lay 64 d h
  unfold SeqAt.shaped
  rw [h1, Bool.true_and]
  exact decide_eq_true h2
section
variable {K : PySem.W.Frag} {Z : Addr → Prop} {H : Hp}
theorem dat_all : ∀ {n : Nat} {vs : List V} {ds : List D}, (∀ (v : V) (d : D), dat n d = true → Rp K Z H v d → Dp K H v (py d)) → ds.all (dat n) = true → Rps K Z H vs ds → DpAll K H vs (pys ds)
  | _, _, _, _, _, .nil => .nil
  | n, _, _, f, a, .cons h t => by
    simp only [List.all_cons, Bool.and_eq_true] at a
    exact .cons (f _ _ a.1 h) (dat_all f a.2 t)
theorem dat_dp : ∀ (n : Nat) (v : V) (d : D), dat n d = true → Rp K Z H v d → Dp K H v (py d)
  | _, _, .non, _, .non => .non
  | _, _, .bl b, _, .bl _ => .bl b
  | _, _, .int i, _, .int _ => .int i
  | _, _, .str x, _, .str _ => .str x
  | n + 1, _, .tup xs, h, .tup s r => by
    simp only [dat] at h
    exact .tup (.of s) (dat_all (dat_dp n) h r)
  | n + 1, _, .con xs, h, .con s r => by
    simp only [dat] at h
    exact .tup s.sq (dat_all (dat_dp n) h r)
  | 0, _, .con _, h, _ => by simp [dat] at h
  | n + 1, _, .lst xs, h, .lst z e r => by
    simp only [dat] at h
    exact .lst (.inl (.inl e)) (dat_all (dat_dp n) h r)
  | 0, _, .tup _, h, _ => by simp [dat] at h
  | 0, _, .lst _, h, _ => by simp [dat] at h
  | n, _, .dK _, h, _ => by cases n <;> simp [dat] at h
  | n, _, .ty _, h, _ => by cases n <;> simp [dat] at h
  | n, _, .dT _, h, _ => by cases n <;> simp [dat] at h
  | n, _, .set _, h, _ => by cases n <;> simp [dat] at h
  | n, _, .scr _, h, _ => by cases n <;> simp [dat] at h
end
/-- == -/
def deq (a b : D) : Bool := PyData.eqv (py a) (py b)
def deqs (a b : List D) : Bool := PyData.eqvAll (pys a) (pys b)
@[simp] theorem deq_int (i j : Int) : deq (.int i) (.int j) = decide (i = j) := by simp [deq, py, PyData.eqv, Bool.beq_eq_decide_eq]
@[simp] theorem deq_bl (i j : Bool) : deq (.bl i) (.bl j) = decide (i = j) := by simp [deq, py, PyData.eqv, Bool.beq_eq_decide_eq]
@[simp] theorem deq_non : deq .non .non = true := by simp [deq, py, PyData.eqv]
@[simp] theorem deq_non_int (i : Int) : deq .non (.int i) = false := by simp [deq, py, PyData.eqv]
@[simp] theorem deq_int_non (i : Int) : deq (.int i) .non = false := by simp [deq, py, PyData.eqv]
@[simp] theorem deq_non_tup (i : List D) : deq .non (.tup i) = false := by simp [deq, py, PyData.eqv]
@[simp] theorem deq_tup_non (i : List D) : deq (.tup i) .non = false := by simp [deq, py, PyData.eqv]
@[simp] theorem deq_int_tup (j : Int) (i : List D) : deq (.int j) (.tup i) = false := by simp [deq, py, PyData.eqv]
@[simp] theorem deq_tup_int (j : Int) (i : List D) : deq (.tup i) (.int j) = false := by simp [deq, py, PyData.eqv]
@[simp] theorem deq_tup (a b : List D) : deq (.tup a) (.tup b) = deqs a b := by simp [deq, deqs, py, PyData.eqv]
@[simp] theorem deq_lst (a b : List D) : deq (.lst a) (.lst b) = deqs a b := by simp [deq, deqs, py, PyData.eqv]
@[simp] theorem deq_lst_tup (a b : List D) : deq (.lst a) (.tup b) = false := by simp [deq, py, PyData.eqv]
@[simp] theorem deq_tup_lst (a b : List D) : deq (.tup a) (.lst b) = false := by simp [deq, py, PyData.eqv]
@[simp] theorem deq_str (a b : Str) : deq (.str a) (.str b) = (a == b) := by simp [deq, py, PyData.eqv]
@[simp] theorem deqs_nil : deqs [] [] = true := by simp [deqs, pys, PyData.eqvAll]
@[simp] theorem deqs_nc (a : D) (as : List D) : deqs [] (a :: as) = false := by simp [deqs, pys, PyData.eqvAll]
@[simp] theorem deqs_cn (a : D) (as : List D) : deqs (a :: as) [] = false := by simp [deqs, pys, PyData.eqvAll]
@[simp] theorem deqs_cons (a b : D) (as bs : List D) : deqs (a :: as) (b :: bs) = (deq a b && deqs as bs) := by simp [deqs, deq, pys, PyData.eqvAll]

section
variable {X : Cx} {a b : Expr} {ta tb : TE} {fa fb : Fe} {pos : PySem.Pos}
theorem pc_op {op : CmpOp} {r : R2} (ho : OpR X (compareOp op) r) (ha : PE X a ta) (hb : PE X b tb) : PC X op a b (tOp r ta tb) :=
  ⟨fun pins s σ H Q I h => binT ha hb I h fun v u s2 x y H2 I2 rx ry q => ho pins s2 σ H2 x y v u Q I2 rx ry q⟩
abbrev AC (X : Cx) (op : CmpOp) (a b : Expr) (f : Fe) : Prop := PC X op a b (eOf X.K f)
theorem PC.mono {op : CmpOp} {t t' : TE} (h : PC X op a b t) (m : ∀ σ H Q, t' σ H Q → t σ H Q) : PC X op a b t' := ⟨fun pins s σ H Q I q => h.run pins s σ H Q I (m σ H Q q)⟩
/-- the truth of an end that is a bool -/
def mB (f : Fe) : Ft := fun E => (f E).bind fun p => (rd p.2 p.1).bind fun d => match d with
  | .bl b => some (b, p.2)
  | _ => none
theorem mB_of {K : PySem.W.Frag} {f : Fe} {σ : L2.St} {H : Hp} {Q : Bool → Hp → Prop} (q : cOf K (mB f) σ H Q) : eOf K f σ H fun x H1 => ∃ c, x = .bl c ∧ Q c H1 := by
  obtain ⟨Z, E, R, s, b, E', e, q⟩ := q
  unfold mB at e
  cases e1 : f E with
  | none => rw [e1] at e; cases e
  | some p =>
    obtain ⟨o, E1⟩ := p
    rw [e1] at e
    simp only [Option.bind_some] at e
    cases e2 : rd E1 o with
    | none => rw [e2] at e; cases e
    | some d =>
      rw [e2] at e
      simp only [Option.bind_some] at e
      split at e
      · cases e
        refine ⟨Z, E, R, s, o, _, e1, fun v Z' H' R' rs s' t' o' f' => ?_⟩
        exact ⟨_, (s'.read o' e2).blE, q Z' H' R' s' t'⟩
      · cases e
theorem ae_cmp {op : CmpOp} {f : Fe} (h : AC X op a b f) (h1 : behindInMarks op b = false := by first | exact nobehind _ (by decide) (by decide) | rfl) : AE X (.Compare a [op] [b] pos) f := pe_cmp h h1
theorem at_cmp {op : CmpOp} {f : Fe} (h : AC X op a b f) (h1 : behindInMarks op b = false := by first | exact nobehind _ (by decide) (by decide) | rfl) : AT X (.Compare a [op] [b] pos) (mB f) :=
  PT.mono (pt_cmp h h1) fun _ _ _ q => mB_of q
theorem ac_lt (ha : AE X a fa) (hb : AE X b fb) : AC X .Lt a b (mLt fa fb) := PC.mono (pc_op op_lt ha hb) fun _ _ _ q => tOp_ro ro_B20 q
theorem ac_le (ha : AE X a fa) (hb : AE X b fb) : AC X .LtE a b (mLe fa fb) := PC.mono (pc_op op_le ha hb) fun _ _ _ q => tOp_ro ro_B20 q
theorem ac_gt (ha : AE X a fa) (hb : AE X b fb) : AC X .Gt a b (mGt fa fb) := PC.mono (pc_op op_gt ha hb) fun _ _ _ q => tOp_ro ro_B20 q
theorem ac_ge (ha : AE X a fa) (hb : AE X b fb) : AC X .GtE a b (mGe fa fb) := PC.mono (pc_op op_ge ha hb) fun _ _ _ q => tOp_ro ro_B20 q
def gEq : List D → Option D
  | [a, b] => if dat 64 a = true ∧ dat 64 b = true then some (.bl (deq a b)) else none
  | _ => none
def gNe : List D → Option D
  | [a, b] => if dat 64 a = true ∧ dat 64 b = true then some (.bl (!deq a b)) else none
  | _ => none
def mEq (a b : Fe) : Fe := mRO gEq (mA2 a b)
def mNe (a b : Fe) : Fe := mRO gNe (mA2 a b)
theorem ro_eq {K : PySem.W.Frag} : RO K (two (rEqD K)) gEq := by
  refine ⟨fun ds d e => ?_, fun H vs ds d Q r e q => ?_⟩
  · unfold gEq at e
    split at e
    · split at e
      · cases e; simp
      · cases e
    · cases e
  · unfold gEq at e
    split at e
    · split at e
      · rename_i h
        cases e
        obtain ⟨x, y, rfl, h1, h2⟩ := r.two
        exact ⟨x, y, rfl, _, _, dat_dp 64 x _ h.1 h1, dat_dp 64 y _ h.2 h2, dat_shaped h.1, dat_shaped h.2, q _ (.bl _)⟩
      · cases e
    · cases e
theorem ro_ne {K : PySem.W.Frag} : RO K (two (rNeD K)) gNe := by
  refine ⟨fun ds d e => ?_, fun H vs ds d Q r e q => ?_⟩
  · unfold gNe at e
    split at e
    · split at e
      · cases e; simp
      · cases e
    · cases e
  · unfold gNe at e
    split at e
    · split at e
      · rename_i h
        cases e
        obtain ⟨x, y, rfl, h1, h2⟩ := r.two
        exact ⟨x, y, rfl, _, _, dat_dp 64 x _ h.1 h1, dat_dp 64 y _ h.2 h2, dat_shaped h.1, dat_shaped h.2, q _ (.bl _)⟩
      · cases e
    · cases e
theorem ac_eq (hu : X.A.units + 64 < cLine) (ha : AE X a fa) (hb : AE X b fb) : AC X .Eq a b (mEq fa fb) := PC.mono (pc_op (op_eqD hu) ha hb) fun _ _ _ q => tOp_ro ro_eq q
theorem ac_ne (hu : X.A.units + 64 < cLine) (ha : AE X a fa) (hb : AE X b fb) : AC X .NotEq a b (mNe fa fb) := PC.mono (pc_op (op_neD hu) ha hb) fun _ _ _ q => tOp_ro ro_ne q

def isNon : D → Bool
  | .non => true
  | _ => false
@[simp] theorem isNon_non : isNon .non = true := rfl
@[simp] theorem isNon_int (i : Int) : isNon (.int i) = false := rfl
@[simp] theorem isNon_tup (i : List D) : isNon (.tup i) = false := rfl
@[simp] theorem isNon_lst (i : List D) : isNon (.lst i) = false := rfl
@[simp] theorem isNon_str (i : Str) : isNon (.str i) = false := rfl
@[simp] theorem isNon_bl (i : Bool) : isNon (.bl i) = false := rfl
@[simp] theorem isNon_dK (i : List (Key × D)) : isNon (.dK i) = false := rfl
@[simp] theorem isNon_dT (i : List (List Key × D)) : isNon (.dT i) = false := rfl
theorem Rp.isNon {K : PySem.W.Frag} {Z : Addr → Prop} {H : Hp} {v : V} {d : D} (h : Rp K Z H v d) : decide (v = .non) = Zk.isNon d := by
  cases h <;> simp [Zk.isNon]
def gIsN : List D → Option D
  | [a] => some (.bl (isNon a))
  | _ => none
def gNotN : List D → Option D
  | [a] => some (.bl (!isNon a))
  | _ => none
def mIsN (a : Fe) : Fe := mRO gIsN (mA1 a)
def mNotN (a : Fe) : Fe := mRO gNotN (mA1 a)
theorem t1_ro {K : PySem.W.Frag} {σ : L2.St} {H : Hp} {Q : VK} {r : V → Hp → VK → Prop} {g : List D → Option D} (h : RO K (fun vs H Q => ∃ x, vs = [x] ∧ r x H Q) g) (q : eOf K (mRO g (mA1 fa)) σ H Q) : eOf K fa σ H fun x H1 => r x H1 Q := tUn_ro h q
theorem ac_isN {j pos'} (ha : AE X a fa) : AC X .Is a (.Constant .none j pos') (mIsN fa) := PC.mono (pc_isN ha) fun _ _ _ q =>
  t1_ro (r := fun x H1 Q => Q (.bl (decide (x = .non))) H1) (by
    refine ⟨fun ds d e => ?_, fun H vs ds d Q r e q => ?_⟩
    · unfold gIsN at e
      split at e
      · cases e; simp
      · cases e
    · unfold gIsN at e
      split at e
      · cases e
        obtain ⟨x, rfl, h⟩ := r.one
        exact ⟨x, rfl, by rw [h.isNon]; exact q _ (.bl _)⟩
      · cases e) q
theorem ac_notN {j pos'} (ha : AE X a fa) : AC X .IsNot a (.Constant .none j pos') (mNotN fa) := PC.mono (pc_notN ha) fun _ _ _ q =>
  t1_ro (r := fun x H1 Q => Q (.bl (!decide (x = .non))) H1) (by
    refine ⟨fun ds d e => ?_, fun H vs ds d Q r e q => ?_⟩
    · unfold gNotN at e
      split at e
      · cases e; simp
      · cases e
    · unfold gNotN at e
      split at e
      · cases e
        obtain ⟨x, rfl, h⟩ := r.one
        exact ⟨x, rfl, by rw [h.isNon]; exact q _ (.bl _)⟩
      · cases e) q

def tru : D → Option Bool
  | .non => some false
  | .bl b => some b
  | .int i => some (i != 0)
  | .tup xs => some (!xs.isEmpty)
  | .con xs => some (!xs.isEmpty)
  | .lst xs => some (!xs.isEmpty)
  | .dK _ => none
  | .str x => if x.length ≤ sizeLine then some ((x.length : Int) != 0) else none
  | _ => none
def mTr (f : Fe) : Ft := fun E => (f E).bind fun p => (rd p.2 p.1).bind fun d => (tru d).map fun b => (b, p.2)
theorem Rps.isEmpty {K : PySem.W.Frag} {Z : Addr → Prop} {H : Hp} {vs : List V} {ds : List D} (r : Rps K Z H vs ds) : vs.isEmpty = ds.isEmpty := by cases r <;> rfl
theorem Rp.tru {K : PySem.W.Frag} {Z : Addr → Prop} {H : Hp} {v : V} {d : D} {b : Bool} (h : Rp K Z H v d) (e : Zk.tru d = some b) : TruV K v H b := by
  cases h with
  | non => cases e; exact rfl
  | bl c => cases e; exact rfl
  | int i => cases e; exact rfl
  | str x =>
    simp only [Zk.tru] at e
    split at e
    · rename_i hl
      cases e
      exact ⟨hl, rfl⟩
    · cases e
  | tup s r => cases e; exact .inr (.inl ⟨_, .of s, by rw [r.isEmpty]⟩)
  | con s r => cases e; exact .inr (.inl ⟨_, s.sq, by rw [r.isEmpty]⟩)
  | lst z s r => cases e; exact .inl ⟨_, .inl (.inl s), by rw [r.isEmpty]⟩
  | dK z s e2 r => simp [Zk.tru] at e
  | dT z s e2 r => simp [Zk.tru] at e
  | ty _ => simp [Zk.tru] at e
  | set _ _ _ _ _ => simp [Zk.tru] at e
  | scr _ => simp [Zk.tru] at e
theorem mTr_of {K : PySem.W.Frag} {f : Fe} {σ : L2.St} {H : Hp} {Q : Bool → Hp → Prop} (q : cOf K (mTr f) σ H Q) : eOf K f σ H fun x H1 => ∃ k, TruV K x H1 k ∧ Q k H1 := by
  obtain ⟨Z, E, R, s, b, E', e, q⟩ := q
  unfold mTr at e
  cases e1 : f E with
  | none => rw [e1] at e; cases e
  | some p =>
    obtain ⟨o, E1⟩ := p
    rw [e1] at e
    simp only [Option.bind_some] at e
    cases e2 : rd E1 o with
    | none => rw [e2] at e; cases e
    | some d =>
      rw [e2] at e
      simp only [Option.bind_some] at e
      cases e3 : tru d with
      | none => rw [e3] at e; cases e
      | some k =>
        rw [e3] at e
        cases e
        refine ⟨Z, E, R, s, o, _, e1, fun v Z' H' R' rs s' t' o' f' => ?_⟩
        exact ⟨_, (s'.read o' e2).tru e3, q Z' H' R' s' t'⟩
/-- any other expression as a test -/
theorem at_tru (ha : AE X a fa) (he : ∀ whole, isTrue a X.env whole = (do let v ← whole; standAt a.pos; holding [v] (truthy v)) := by intro _; rfl) : AT X a (mTr fa) := PT.mono (pt_truth ha he) fun _ _ _ q => mTr_of q

variable {ca cb : Ft} {rest : List Expr}
def mAndT (a b : Ft) : Ft := fun E => (a E).bind fun p => if p.1 = true then b p.2 else some (false, p.2)
def mOrT (a b : Ft) : Ft := fun E => (a E).bind fun p => if p.1 = true then some (true, p.2) else b p.2
def mNotT (a : Ft) : Ft := fun E => (a E).map fun p => (!p.1, p.2)
abbrev AW (X : Cx) (e : Expr) (f : Ft) : Prop := PW X e (cOf X.K f)
theorem cOf_seq {K : PySem.W.Frag} {a b : Ft} {f : Ft} {σ : L2.St} {H : Hp} {Q : Bool → Hp → Prop} (w : Bool) (hf : ∀ E, f E = (a E).bind fun p => if p.1 = w then b p.2 else some (!w, p.2)) (q : cOf K f σ H Q) :
    cOf K a σ H fun c H1 => if c = w then cOf K b σ H1 Q else Q (!w) H1 := by
  obtain ⟨Z, E, R, s, c, E', e, q⟩ := q
  rw [hf] at e
  cases e1 : a E with
  | none => rw [e1] at e; cases e
  | some p =>
    obtain ⟨c1, E1⟩ := p
    rw [e1] at e
    simp only [Option.bind_some] at e
    refine ⟨Z, E, R, s, c1, E1, e1, fun Z' H' R' s' t' => ?_⟩
    by_cases k : c1 = w
    · rw [if_pos k] at e ⊢
      exact ⟨Z', E1, R', s', c, E', e, fun Z2 H2 R2 s2 t2 => q Z2 H2 R2 s2 (t'.trans t2)⟩
    · rw [if_neg k] at e ⊢
      cases e
      exact q Z' H' R' s' t'
theorem aw_and1 (ha : AT X a ca) : AW X (.BoolOp .And [a] pos) ca := pw_and1 ha
theorem aw_or1 (ha : AT X a ca) : AW X (.BoolOp .Or [a] pos) ca := pw_or1 ha
theorem aw_and (ha : AT X a ca) (hb : AW X (.BoolOp .And (b :: rest) pos) cb) : AW X (.BoolOp .And (a :: b :: rest) pos) (mAndT ca cb) := PW.mono (pw_and ha hb) fun σ H Q q => by
  obtain ⟨Z, E, R, s, c, E', e, q⟩ := cOf_seq true (fun E => rfl) q
  refine ⟨Z, E, R, s, c, E', e, fun Z' H' R' s' t' => ?_⟩
  have := q Z' H' R' s' t'
  cases c <;> simpa using this
theorem aw_or (ha : AT X a ca) (hb : AW X (.BoolOp .Or (b :: rest) pos) cb) : AW X (.BoolOp .Or (a :: b :: rest) pos) (mOrT ca cb) := PW.mono (pw_or ha hb) fun σ H Q q => by
  obtain ⟨Z, E, R, s, c, E', e, q⟩ := cOf_seq (a := ca) (b := cb) false (fun E => by unfold mOrT; cases ca E with | none => rfl | some p => obtain ⟨c, E1⟩ := p; cases c <;> rfl) q
  refine ⟨Z, E, R, s, c, E', e, fun Z' H' R' s' t' => ?_⟩
  have := q Z' H' R' s' t'
  cases c <;> simpa using this
theorem at_w (h : AW X a ca) : AT X a ca := h.pt
theorem at_not (ha : AT X a ca) : AT X (.UnaryOp .Not a pos) (mNotT ca) := PT.mono (pt_not ha) fun σ H Q q => by
  obtain ⟨Z, E, R, s, c, E', e, q⟩ := q
  unfold mNotT at e
  cases e1 : ca E with
  | none => rw [e1] at e; cases e
  | some p =>
    rw [e1] at e
    cases e
    exact ⟨Z, E, R, s, p.1, p.2, e1, fun Z' H' R' s' t' => q Z' H' R' s' t'⟩
/-- .. as values, by truth -/
def mAndV (a b : Fe) : Fe := fun E => (a E).bind fun p => (rd p.2 p.1).bind fun d => (tru d).bind fun k => if k = true then b p.2 else some (p.1, p.2)
theorem eOf_tru {K : PySem.W.Frag} {f : Fe} {b : Fe} {g : Fe} {w : Bool} {σ : L2.St} {H : Hp} {Q : VK}
    (hf : ∀ E, f E = (g E).bind fun p => (rd p.2 p.1).bind fun d => (tru d).bind fun k => if k = w then b p.2 else some (p.1, p.2)) (q : eOf K f σ H Q) :
    eOf K g σ H fun x H1 => ∃ k, TruV K x H1 k ∧ if k = w then eOf K b σ H1 Q else Q x H1 := by
  obtain ⟨Z, E, R, s, o, E', e, q⟩ := q
  rw [hf] at e
  cases e1 : g E with
  | none => rw [e1] at e; cases e
  | some p =>
    obtain ⟨o1, E1⟩ := p
    rw [e1] at e
    simp only [Option.bind_some] at e
    cases e2 : rd E1 o1 with
    | none => rw [e2] at e; cases e
    | some d =>
      rw [e2] at e
      simp only [Option.bind_some] at e
      cases e3 : tru d with
      | none => rw [e3] at e; cases e
      | some k =>
        rw [e3] at e
        simp only [Option.bind_some] at e
        refine ⟨Z, E, R, s, o1, E1, e1, fun v Z' H' R' rs s' t' o' f' => ⟨k, (s'.read o' e2).tru e3, ?_⟩⟩
        by_cases c : k = w
        · rw [if_pos c] at e ⊢
          exact ⟨Z', E1, R', s', o, E', e, fun v2 Z2 H2 R2 rs2 s2 t2 o2 f2 => q v2 Z2 H2 R2 rs2 s2 (t'.trans t2) o2 (f2.trans t'.on t'.dm)⟩
        · rw [if_neg c] at e ⊢
          cases e
          exact q v Z' H' R' rs s' t' o' f'
theorem ae_one {op} (h : AE X a fa) : AE X (.BoolOp op [a] pos) fa := pe_one h
theorem ae_andV (ha : AE X a fa) (hb : AE X (.BoolOp .And (b :: rest) pos) fb) : AE X (.BoolOp .And (a :: b :: rest) pos) (mAndV fa fb) := PE.mono (pe_andT ha hb) fun σ H Q q => eOf_tru (w := true) (fun E => rfl) q
/-- a if c else b -/
def mIf (c : Ft) (a b : Fe) : Fe := fun E => (c E).bind fun p => if p.1 = true then a p.2 else b p.2
theorem ae_if {c : Expr} {cc : Ft} (hc : AT X c cc) (ha : AE X a fa) (hb : AE X b fb) : AE X (.IfExp c a b pos) (mIf cc fa fb) := PE.mono (pe_ifExp hc ha hb) fun σ H Q q => by
  obtain ⟨Z, E, R, s, o, E', e, q⟩ := q
  unfold mIf at e
  cases e1 : cc E with
  | none => rw [e1] at e; cases e
  | some p =>
    obtain ⟨k, E1⟩ := p
    rw [e1] at e
    simp only [Option.bind_some] at e
    refine ⟨Z, E, R, s, k, E1, e1, fun Z' H' R' s' t' => ?_⟩
    cases k with
    | true =>
      rw [if_pos rfl] at e ⊢
      exact ⟨Z', E1, R', s', o, E', e, fun v2 Z2 H2 R2 rs2 s2 t2 o2 f2 => q v2 Z2 H2 R2 rs2 s2 (t'.trans t2) o2 (f2.trans t'.on t'.dm)⟩
    | false =>
      rw [if_neg Bool.false_ne_true] at e ⊢
      exact ⟨Z', E1, R', s', o, E', e, fun v2 Z2 H2 R2 rs2 s2 t2 o2 f2 => q v2 Z2 H2 R2 rs2 s2 (t'.trans t2) o2 (f2.trans t'.on t'.dm)⟩
end
end Zk
namespace Zk
open PySem PySem.Spec PyProof.Rows L2

section
variable {K : PySem.W.Frag} {Z Z' : Addr → Prop} {H H' : Hp} {σ : L2.St} {E E' : Ev} {R R' : Rs}
/-- an unchangeable end leaves all as it is; another one may hold the items of what is given -/
def mOp (g : List D → Option (D × Nat)) (fa : Fa) : Fe := fun E => (fa E).bind fun p => (rdL p.2 p.1).bind fun ds => (g ds).bind fun d =>
  if imm d.1 = true then some (.val d.1 9, p.2) else (akL p.2 p.1).map fun q => (.val d.1 d.2, q.2)
theorem Rps.kfs : ∀ {vs : List V} {ds : List D}, Rps K Z H vs ds → Kfs K Z H vs ds
  | _, _, .nil => .nil
  | _, _, .cons h t => .cons h.kf (Rps.kfs t)
mutual
/-- what is readable is there -/
theorem Rp.dom : ∀ {v : V} {d : D}, Rp K (fun _ => True) H v d → Rp K (fun a => H a ≠ none) H v d
  | _, _, .non => .non
  | _, _, .bl b => .bl b
  | _, _, .int i => .int i
  | _, _, .str x => .str x
  | _, _, .ty x => .ty x
  | _, _, .tup h r => .tup h (Rps.dom r)
  | _, _, .con h r => .con h (Rps.dom r)
  | _, _, .lst _ h r => .lst (by rw [h]; simp) h (Rps.dom r)
  | _, _, .dK _ h e r => .dK (by rcases h with h | ⟨o, h⟩ <;> rw [h] <;> simp) h e (Rps.dom r)
  | _, _, .dT _ h e r => .dT (by rw [h]; simp) h e (Rps.dom r)
  | _, _, .set _ h e n d => .set (by rw [h]; simp) h e n d
  | _, _, .scr h => .scr h
theorem Rps.dom : ∀ {vs : List V} {ds : List D}, Rps K (fun _ => True) H vs ds → Rps K (fun a => H a ≠ none) H vs ds
  | _, _, .nil => .nil
  | _, _, .cons h t => .cons (Rp.dom h) (Rps.dom t)
end
theorem ak_rd {E E' : Ev} {o : Op} {d : D} (h : ak E o = some (d, E')) : rd E o = some d := by
  cases o with
  | val d' n => cases h; rfl
  | slot i =>
    unfold ak at h
    cases q : eg E i with
    | none => simp [q] at h
    | some dn =>
      simp only [q] at h
      split at h <;> (cases h; simp [Zk.rd, q])
theorem ak_len {E E' : Ev} {o : Op} {d : D} (h : ak E o = some (d, E')) (j : Nat) (d' : D) (n' : Nat) (e : eg E j = some (d', n')) : ∃ m, eg E' j = some (d', m) := by
  cases o with
  | val d' n => cases h; exact ⟨_, e⟩
  | slot i =>
    unfold ak at h
    cases q : eg E i with
    | none => simp [q] at h
    | some dn =>
      simp only [q] at h
      split at h
      · cases h; exact ⟨_, e⟩
      · cases h
        by_cases c : j = i
        · subst c
          rw [q] at e
          cases e
          exact ⟨0, eg_set_same (eg_lt q)⟩
        · exact ⟨n', by rw [eg_set_ne c]; exact e⟩
theorem rd_ak {E E' : Ev} {o o' : Op} {d d' : D} (h : ak E o = some (d, E')) (e : rd E o' = some d') : rd E' o' = some d' := by
  cases o' with
  | val x n => exact e
  | slot j =>
    simp only [Zk.rd] at e ⊢
    cases q : eg E j with
    | none => simp [q] at e
    | some dn =>
      obtain ⟨m, hm⟩ := ak_len h j dn.1 dn.2 q
      rw [q] at e
      cases e
      rw [hm]; rfl
theorem akL_rd : ∀ {os : List Op} {E E' : Ev} {ds es : List D}, akL E os = some (ds, E') → rdL E os = some es → ds = es
  | [], _, _, _, _, h, e => by cases h; cases e; rfl
  | o :: os, E, E', ds, es, h, e => by
    simp only [akL] at h
    simp only [rdL] at e
    cases q : ak E o with
    | none => rw [q] at h; cases h
    | some p =>
      rw [q] at h
      simp only [Option.bind_some] at h
      cases q2 : akL p.2 os with
      | none => rw [q2] at h; cases h
      | some p2 =>
        rw [q2] at h
        cases h
        rw [ak_rd (E' := p.2) (d := p.1) q] at e
        simp only [Option.bind_some] at e
        cases q3 : rdL E os with
        | none => rw [q3] at e; cases e
        | some fs =>
          rw [q3] at e
          cases e
          have mono : ∀ {os : List Op} {es : List D}, rdL E os = some es → rdL p.2 os = some es := by
            intro os
            induction os with
            | nil => intro es h; exact h
            | cons o' os ih =>
              intro es h
              simp only [rdL] at h ⊢
              cases r1 : rd E o' with
              | none => rw [r1] at h; cases h
              | some d1 =>
                rw [r1] at h
                simp only [Option.bind_some] at h
                cases r2 : rdL E os with
                | none => rw [r2] at h; cases h
                | some ds1 =>
                  rw [r2] at h
                  rw [rd_ak (E' := p.2) (d := p.1) q r1, ih r2]
                  exact h
          rw [akL_rd q2 (mono q3)]
theorem op_of {r : List V → Hp → VK → Prop} {g : List D → Option (D × Nat)} (h : AL K r g) {fa : Fa} {σ : L2.St} {H : Hp} {Q : VK} (q : eOf K (mOp g fa) σ H Q) : aOf K fa σ H fun vs H2 => r vs H2 Q := by
  obtain ⟨Z, E, R, s, o, E', e, q⟩ := q
  unfold mOp at e
  cases e1 : fa E with
  | none => rw [e1] at e; cases e
  | some p =>
    obtain ⟨os, E1⟩ := p
    rw [e1] at e
    simp only [Option.bind_some] at e
    cases e2 : rdL E1 os with
    | none => rw [e2] at e; cases e
    | some ds =>
      rw [e2] at e
      simp only [Option.bind_some] at e
      cases e3 : g ds with
      | none => rw [e3] at e; cases e
      | some d =>
        rw [e3] at e
        simp only [Option.bind_some] at e
        by_cases hi : imm d.1 = true
        · rw [if_pos hi] at e
          cases e
          refine ⟨Z, E, R, s, os, _, e1, fun vs Z1 H1 R1 rss s1 t1 a1 f1 => ?_⟩
          refine h (fun a => H1 a ≠ none) H1 vs ds d.1 d.2 Q (fun _ z => z) (s1.readL a1 e2).dom.kfs e3 fun v H' rs m o nd nw => ?_
          obtain ⟨rfl, rp⟩ := o.imm hi
          exact q v Z1 H' R1 [] (s1.more m) (t1.trans (m.step _)) (Own.ofImm (rp.immz (fun _ _ e _ => e) hi) hi) .nil
        · rw [if_neg hi] at e
          cases e4 : akL E1 os with
          | none => rw [e4] at e; cases e
          | some p2 =>
            obtain ⟨ds', E2⟩ := p2
            rw [e4] at e
            cases e
            cases akL_rd e4 e2
            refine al_of h (fa := fa) ⟨Z, E, R, s, .val d.1 d.2, E2, ?_, q⟩
            unfold mAL
            rw [e1]
            simp only [Option.bind_some, e4, e3, Option.map_some]
theorem tOp_op {fa fb : Fe} {r : R2} {g : List D → Option (D × Nat)} {Q : VK} (h : AL K (two r) g) (q : eOf K (mOp g (mA2 fa fb)) σ H Q) : tOp r (eOf K fa) (eOf K fb) σ H Q := by
  have z := aOf_2 (op_of h q)
  obtain ⟨Z, E, R, s, o1, E1, e1, z⟩ := z
  refine ⟨Z, E, R, s, o1, E1, e1, fun v Z' H' R' rs s' t' o' f' => ?_⟩
  obtain ⟨Z2, E2, R2, s2, o2, E3, e2, z2⟩ := z v Z' H' R' rs s' t' o' f'
  refine ⟨Z2, E2, R2, s2, o2, E3, e2, fun v2 Z3 H3 R3 rs3 s3 t3 o3 f3 => ?_⟩
  obtain ⟨x, y, e, q⟩ := z2 v2 Z3 H3 R3 rs3 s3 t3 o3 f3
  cases e
  exact q

theorem Rps.atI {Z : Addr → Prop} {vs : List V} {ds : List D} (r : Rps K Z H vs ds) {i : Int} {d : D} (e : L2.atI ds i = some d) : ∃ v, L2.atI vs i = some v ∧ Rp K Z H v d := by
  unfold L2.atI at e ⊢
  rw [r.len]
  cases q : ixN ds.length i with
  | none => rw [q] at e; cases e
  | some j =>
    rw [q] at e
    simp only [Option.bind_some] at e ⊢
    exact r.getD e
/-- xs[i] -/
def gIx : List D → Option (D × Nat)
  | [.lst ds, .int i] => (atI ds i).map fun d => (d, 0)
  | [.tup ds, .int i] => (atI ds i).map fun d => (d, 0)
  | [.con ds, .int i] => (atI ds i).map fun d => (d, 0)
  | [.scr ds, .int i] => (atI ds i).map fun d => (.int d, 9)
  | [.str z, .int i] => if z.length ≤ sizeLine then (atI z.cps.toList i).map fun c => (.str ⟨#[c]⟩, 9) else none
  | _ => none
theorem atI_map {α β : Type} (f : α → β) (xs : List α) (i : Int) : L2.atI (xs.map f) i = (L2.atI xs i).map f := by
  unfold L2.atI
  rw [List.length_map]
  cases ixN xs.length i with
  | none => rfl
  | some j => simp
theorem al_ix : AL K (two (rIx K)) gIx := by
  intro Z H vs ds d n Q hz k e q
  unfold gIx at e
  split at e
  · rename_i ds i
    cases e1 : atI ds i with
    | none => rw [e1] at e; cases e
    | some d1 =>
      rw [e1] at e
      cases e
      obtain ⟨x, y, rfl, ⟨p, xs, rfl, hp, r⟩, h2⟩ := k.two
      cases Rp.intE h2
      obtain ⟨v, ev, rv⟩ := r.atI e1
      exact ⟨_, _, rfl, .inl ⟨p, xs, i, v, rfl, rfl, .inl (.inl hp), ev, q v H [] (.refl _) ⟨rfl, rv⟩ List.nodup_nil fun a m => by simp at m⟩⟩
  · rename_i ds i
    cases e1 : atI ds i with
    | none => rw [e1] at e; cases e
    | some d1 =>
      rw [e1] at e
      cases e
      obtain ⟨x, y, rfl, h1, h2⟩ := k.two
      cases Rp.intE h2
      cases h1 with
      | tup s r =>
        obtain ⟨v, ev, rv⟩ := r.atI e1
        exact ⟨_, _, rfl, .inr (.inl ⟨_, _, i, v, rfl, rfl, .of s, ev, q v H [] (.refl _) ⟨rfl, rv⟩ List.nodup_nil fun a m => by simp at m⟩)⟩
  · rename_i ds i
    cases e1 : atI ds i with
    | none => rw [e1] at e; cases e
    | some d1 =>
      rw [e1] at e
      cases e
      obtain ⟨x, y, rfl, h1, h2⟩ := k.two
      cases Rp.intE h2
      cases h1 with
      | con s r =>
        obtain ⟨v, ev, rv⟩ := r.atI e1
        exact ⟨_, _, rfl, .inr (.inl ⟨_, _, i, v, rfl, rfl, s.sq, ev, q v H [] (.refl _) ⟨rfl, rv⟩ List.nodup_nil fun a m => by simp at m⟩)⟩
  · rename_i ns i
    cases e1 : atI ns i with
    | none => rw [e1] at e; cases e
    | some d1 =>
      rw [e1] at e
      cases e
      obtain ⟨x, y, rfl, h1, h2⟩ := k.two
      cases Rp.intE h2
      cases h1 with
      | scr s =>
        exact ⟨_, _, rfl, .inl ⟨_, _, i, .int d1, rfl, rfl, s.sq, by rw [atI_map, e1]; rfl, fin_imm (Z := Z) (.int _) (by simp) q⟩⟩
  · rename_i z i
    split at e
    · rename_i hl
      cases e1 : atI z.cps.toList i with
      | none => rw [e1] at e; cases e
      | some c =>
        rw [e1] at e
        cases e
        obtain ⟨x, y, rfl, h1, h2⟩ := k.two
        cases Rp.intE h2
        cases Rp.strE h1
        exact ⟨_, _, rfl, .inr (.inr ⟨z, i, c, rfl, rfl, hl, e1, fin_imm (Z := Z) (.str _) (by simp) q⟩)⟩
    · cases e
  · cases e
end
section
variable {X : Cx} {a b e : Expr} {es : List Expr} {fa fb fe : Fe} {fs : Fa} {pos : PySem.Pos} {x : Str} {p : PySem.Pos} {id T : String} {r : List V → Hp → VK → Prop}
theorem aa_nil : AA X [] mA0 := PA.mono pa_nil fun _ _ _ q => aOf_0 q
theorem aa_cons (ha : AE X e fe) (hr : AA X es fs) (hs : starEach (e :: es) X.env = (false, eval e X.env) :: starEach es X.env := by rfl) : AA X (e :: es) (mAc fe fs) := PA.mono (pa_cons ha hr hs) fun _ _ _ q => aOf_c q

theorem ae_blt {g : List D → Option (D × Nat)} (hc : CallR X (.builtin id) r) (hal : AL X.K r g) (hg : Gl X x) (hm : X.mg x = none) (hv : bootBuiltins x = some (.builtin id)) (ha : AA X (e :: es) fs) (hn : x ≠ "__name__" := by decide) (hdb : (x == ("__debug__" : Str)) = false := by decide)
    (he : starEach (e :: es) X.env = (false, eval e X.env) :: starEach es X.env := by rfl) (hpl : (backTo pos (starEach es X.env)).any (·.1) = false := by rfl) : AE X (.Call (.Name x p) (e :: es) [] pos) (mOp g fs) :=
  PE.mono (pe_callB hc hg hm hv ha hn hdb he hpl) fun _ _ _ q => op_of hal q
theorem ae_bty {g : List D → Option (D × Nat)} (hc : CallR X (.type T) r) (hal : AL X.K r g) (hg : Gl X x) (hm : X.mg x = none) (hv : bootBuiltins x = some (.type T)) (ha : AA X (e :: es) fs) (hn : x ≠ "__name__" := by decide) (hdb : (x == ("__debug__" : Str)) = false := by decide)
    (he : starEach (e :: es) X.env = (false, eval e X.env) :: starEach es X.env := by rfl) (hpl : (backTo pos (starEach es X.env)).any (·.1) = false := by rfl) : AE X (.Call (.Name x p) (e :: es) [] pos) (mOp g fs) :=
  PE.mono (pe_callTy hc hg hm hv ha hn hdb he hpl) fun _ _ _ q => op_of hal q
/-- a built-in type as a value -/
theorem ae_typ {n : String} (hg : Gl X x) (hm : X.mg x = none) (hv : bootBuiltins x = some (.type n)) (hn : x ≠ "__name__" := by decide) (hdb : (x == ("__debug__" : Str)) = false := by decide) : AE X (.Name x pos) (mC (.ty n)) :=
  PE.mono (pe_bltn (v := .ty n) hg hm hv rfl hn hdb) fun _ _ _ q => mC_of (fun _ _ => .ty n) (by simp) q
end
section
variable {K : PySem.W.Frag} {Z Z' : Addr → Prop} {H H' : Hp} {σ : L2.St}
/-- len -/
def gLen : List D → Option (D × Nat)
  | [.lst ds] => some (.int ds.length, 9)
  | [.tup ds] => some (.int ds.length, 9)
  | [.con ds] => some (.int ds.length, 9)
  | [.scr ds] => some (.int ds.length, 9)
  | [.str z] => if z.length ≤ sizeLine then some (.int z.length, 9) else none
  | _ => none
theorem al_len : AL K (fun xs H Q => ∃ x n, xs = [x] ∧ LenV K x H n ∧ Q (.int n) H) gLen := by
  intro Z H vs ds d n Q hz k e q
  unfold gLen at e
  split at e
  · cases e
    obtain ⟨x, rfl, ⟨p, xs, rfl, hp, r⟩⟩ := k.one
    exact ⟨_, xs.length, rfl, .inl ⟨xs, .inl (.inl hp), rfl⟩, by rw [r.len]; exact fin_imm (Z := Z) (.int _) (by simp) q⟩
  · cases e
    obtain ⟨x, rfl, h1⟩ := k.one
    cases h1 with
    | tup s r => exact ⟨_, _, rfl, .inr ⟨_, .of s, rfl⟩, by rw [r.len]; exact fin_imm (Z := Z) (.int _) (by simp) q⟩
  · cases e
    obtain ⟨x, rfl, h1⟩ := k.one
    cases h1 with
    | con s r => exact ⟨_, _, rfl, .inr ⟨_, s.sq, rfl⟩, by rw [r.len]; exact fin_imm (Z := Z) (.int _) (by simp) q⟩
  · cases e
    obtain ⟨x, rfl, h1⟩ := k.one
    cases h1 with
    | scr s => exact ⟨_, _, rfl, .inl ⟨_, s.sq, rfl⟩, by rw [List.length_map]; exact fin_imm (Z := Z) (.int _) (by simp) q⟩
  · split at e
    · rename_i hl
      cases e
      obtain ⟨x, rfl, h1⟩ := k.one
      cases Rp.strE h1
      exact ⟨_, _, rfl, ⟨hl, rfl⟩, fin_imm (Z := Z) (.int _) (by simp) q⟩
    · cases e
  · cases e
/-- the ints of some data -/
def iof : List D → Option (List Int)
  | [] => some []
  | .int i :: ds => (iof ds).map (i :: ·)
  | _ => none
theorem iof_eq : ∀ {ds : List D} {ns : List Int}, iof ds = some ns → ds = ns.map D.int
  | [], _, h => by cases h; rfl
  | d :: ds, ns, h => by
    cases d with
    | int i =>
      simp only [iof] at h
      cases q : iof ds with
      | none => rw [q] at h; cases h
      | some ms => rw [q] at h; cases h; simp [iof_eq q]
    | _ => simp [iof] at h
@[simp] theorem iof_map (ns : List Int) : iof (ns.map D.int) = some ns := by
  induction ns with
  | nil => rfl
  | cons n ns ih => simp [iof, ih]
def minL : List Int → Int
  | [] => 0
  | [a] => a
  | a :: as => min a (minL as)
theorem minL_mem : ∀ {ns : List Int}, ns ≠ [] → minL ns ∈ ns ∧ ∀ y ∈ ns, minL ns ≤ y
  | [a], _ => by simp [minL]
  | a :: b :: r, _ => by
    obtain ⟨h1, h2⟩ := minL_mem (ns := b :: r) (by simp)
    simp only [minL]
    refine ⟨?_, fun y hy => ?_⟩
    · by_cases c : a ≤ minL (b :: r)
      · rw [Int.min_eq_left c]; exact List.mem_cons_self
      · rw [Int.min_eq_right (by omega)]; exact List.mem_cons_of_mem _ h1
    · rcases List.mem_cons.mp hy with rfl | hy
      · omega
      · have := h2 y hy; omega
def gMin : List D → Option (D × Nat)
  | [.lst ds] => (iof ds).bind fun ns => if ns = [] then none else some (.int (minL ns), 9)
  | [.int i, .int j] => some (.int (min i j), 9)
  | _ => none
def rMins (K : PySem.W.Frag) : List V → Hp → VK → Prop := fun xs H Q => rMin K xs H Q ∨ (∃ i j, xs = [.int i, .int j] ∧ Q (.int (if j < i then j else i)) H)
theorem al_min : AL K (rMins K) gMin := by
  intro Z H vs ds d n Q hz k e q
  unfold gMin at e
  split at e
  · rename_i ds
    cases e1 : iof ds with
    | none => rw [e1] at e; cases e
    | some ns =>
      rw [e1] at e
      simp only [Option.bind_some] at e
      split at e
      · cases e
      · rename_i ne
        cases e
        cases iof_eq e1
        obtain ⟨x, rfl, ⟨p, xs, rfl, hp, r⟩⟩ := k.one
        cases r.ints
        refine .inl ⟨p, ns, rfl, .inl (.inl hp), by cases ns with | nil => exact absurd rfl ne | cons a b => simp, fun m hm hle => ?_⟩
        obtain ⟨h1, h2⟩ := minL_mem ne
        have e2 : m = minL ns := Int.le_antisymm (hle _ h1) (h2 m hm)
        rw [e2]
        exact fin_imm (Z := Z) (.int _) (by simp) q
  · rename_i i j
    cases e
    obtain ⟨x, y, rfl, h1, h2⟩ := k.two
    cases Rp.intE h1
    cases Rp.intE h2
    refine .inr ⟨i, j, rfl, ?_⟩
    have e2 : (if j < i then j else i) = min i j := by split <;> omega
    rw [e2]
    exact fin_imm (Z := Z) (.int _) (by simp) q
  · cases e
def gInt : List D → Option (D × Nat)
  | [.int i] => some (.int i, 9)
  | [.bl b] => some (.int (if b then 1 else 0), 9)
  | _ => none
theorem al_int : AL K (fun xs H Q => (∃ i, xs = [.int i] ∧ Q (.int i) H) ∨ ∃ k, xs = [.bl k] ∧ Q (.int (if k then 1 else 0)) H) gInt := by
  intro Z H vs ds d n Q hz k e q
  unfold gInt at e
  split at e
  · cases e
    obtain ⟨x, rfl, h1⟩ := k.one
    cases Rp.intE h1
    exact .inl ⟨_, rfl, fin_imm (Z := Z) (.int _) (by simp) q⟩
  · cases e
    obtain ⟨x, rfl, h1⟩ := k.one
    cases Rp.blE h1
    exact .inr ⟨_, rfl, fin_imm (Z := Z) (.int _) (by simp) q⟩
  · cases e
/-- list(xs), tuple(xs) -/
def gList : List D → Option (D × Nat)
  | [.lst ds] => some (.lst ds, lev ds)
  | [.tup ds] => some (.lst ds, lev ds)
  | _ => none
theorem al_list : AL K (fun xs H Q => ∃ p ys, xs = [.ref p] ∧ (SqL K H p ys ∨ SqT K H p ys) ∧ ∀ l, H l = none → Q (.ref l) (upd H l (.lst ys))) gList := by
  intro Z H vs ds d n Q hz k e q
  unfold gList at e
  split at e
  · cases e
    obtain ⟨x, rfl, ⟨p, xs, rfl, hp, r⟩⟩ := k.one
    exact ⟨p, xs, rfl, .inl (.inl (.inl hp)), fin_lst hz r q⟩
  · cases e
    obtain ⟨x, rfl, h1⟩ := k.one
    cases h1 with
    | tup s r => exact ⟨_, _, rfl, .inr (.of s), fin_lst hz r q⟩
  · cases e
def gTuple : List D → Option (D × Nat)
  | [.lst ds] => some (.tup ds, 0)
  | [.tup ds] => some (.tup ds, 0)
  | _ => none
theorem al_tuple : AL K (fun xs H Q => ∃ p ys, xs = [.ref p] ∧ ((SqL K H p ys ∧ ∀ l, H l = none → Q (.ref l) (upd H l (.tup ys))) ∨ (SqT K H p ys ∧ Q (.ref p) H))) gTuple := by
  intro Z H vs ds d n Q hz k e q
  unfold gTuple at e
  split at e
  · cases e
    obtain ⟨x, rfl, ⟨p, xs, rfl, hp, r⟩⟩ := k.one
    exact ⟨p, xs, rfl, .inl ⟨.inl (.inl hp), fin_tup r q⟩⟩
  · cases e
    obtain ⟨x, rfl, h1⟩ := k.one
    cases h1 with
    | tup s r => exact ⟨_, _, rfl, .inr ⟨.of s, q _ H [] (.refl _) ⟨rfl, .tup s r⟩ List.nodup_nil fun a m => by simp at m⟩⟩
  · cases e
/-- sorted of iof -/
def srt (ns : List Int) : List Int := ns.mergeSort (fun a b => decide (a ≤ b))
theorem srt_perm (ns : List Int) : (srt ns).Perm ns := List.mergeSort_perm _ _
theorem srt_pair (ns : List Int) : (srt ns).Pairwise (· ≤ ·) := by
  have h := List.pairwise_mergeSort (le := fun a b : Int => decide (a ≤ b)) (fun a b c h1 h2 => by simp at *; omega) (fun a b => by simp; omega) ns
  exact h.imp fun h => by simpa using h
theorem srt_uniq : ∀ {xs ys : List Int}, xs.Perm ys → xs.Pairwise (· ≤ ·) → ys.Pairwise (· ≤ ·) → xs = ys := fun p h1 h2 =>
  p.eq_of_pairwise (le := (· ≤ ·)) (fun _ _ _ _ h1 h2 => Int.le_antisymm h1 h2) h1 h2
def gSrtI : List D → Option (D × Nat)
  | [.lst ds] => (iof ds).map fun ns => (.lst ((srt ns).map D.int), 9)
  | _ => none
theorem lev_ints (ns : List Int) : lev (ns.map D.int) = 9 := by unfold lev; rw [imms_map _ (fun _ => by simp)]; rfl
theorem al_srtI : AL K (rSortedI K) gSrtI := by
  intro Z H vs ds d n Q hz k e q
  unfold gSrtI at e
  split at e
  · rename_i ds
    cases e1 : iof ds with
    | none => rw [e1] at e; cases e
    | some ns =>
      rw [e1] at e
      cases e
      cases iof_eq e1
      obtain ⟨x, rfl, ⟨p, xs, rfl, hp, r⟩⟩ := k.one
      cases r.ints
      refine ⟨p, ns, rfl, .inl (.inl hp), fun ns' p' pm so hn => ?_⟩
      have e2 : ns' = srt ns := srt_uniq (pm.trans (srt_perm ns).symm) so (srt_pair ns)
      subst e2
      have := fin_lst (Q := Q) hz (Rps.ofInts (K := K) (Z := Z) (H := H) (srt ns)) (by rw [lev_ints]; exact q)
      exact this p' hn
  · cases e
/-- any, all of bools -/
def bools : List D → Option (List Bool)
  | [] => some []
  | .bl i :: ds => (bools ds).map (i :: ·)
  | _ => none
theorem bools_eq : ∀ {ds : List D} {ns : List Bool}, bools ds = some ns → ds = ns.map D.bl
  | [], _, h => by cases h; rfl
  | d :: ds, ns, h => by
    cases d with
    | bl i =>
      simp only [bools] at h
      cases q : bools ds with
      | none => rw [q] at h; cases h
      | some ms => rw [q] at h; cases h; simp [bools_eq q]
    | _ => simp [bools] at h
@[simp] theorem bools_map (ns : List Bool) : bools (ns.map D.bl) = some ns := by
  induction ns with
  | nil => rfl
  | cons n ns ih => simp [bools, ih]
def gAny : List D → Option (D × Nat)
  | [.lst ds] => (bools ds).map fun ns => (.bl (ns.any id), 9)
  | _ => none
theorem al_any : AL K (rAny K) gAny := by
  intro Z H vs ds d n Q hz k e q
  unfold gAny at e
  split at e
  · rename_i ds
    cases e1 : bools ds with
    | none => rw [e1] at e; cases e
    | some ns =>
      rw [e1] at e
      cases e
      cases bools_eq e1
      obtain ⟨x, rfl, ⟨p, xs, rfl, hp, r⟩⟩ := k.one
      cases r.bls
      exact ⟨p, ns, rfl, .inl (.inl hp), fin_imm (Z := Z) (.bl _) (by simp) q⟩
  · cases e
/-- isinstance -/
def tyOf : D → Option String
  | .non => some "NoneType"
  | .bl _ => some "bool"
  | .int _ => some "int"
  | .str _ => some "str"
  | .tup _ => some "tuple"
  | .con _ => some "tuple"
  | .lst _ => some "list"
  | .dK _ => some "dict"
  | .dT _ => some "dict"
  | _ => none
/-- what isinstance of built-in types says, for those that are met here -/
def isi (a b : String) : Option Bool :=
  if b = "int" then some (a == "int" || a == "bool")
  else if b = "bool" ∨ b = "str" ∨ b = "tuple" ∨ b = "list" ∨ b = "dict" then some (a == b) else none
theorem isi_kit {d : D} {a b : String} {r : Bool} (h : tyOf d = some a) (e : isi a b = some r) : kitB a b = some r := by
  have ha : a = "NoneType" ∨ a = "bool" ∨ a = "int" ∨ a = "str" ∨ a = "tuple" ∨ a = "list" ∨ a = "dict" := by
    cases d <;> simp [tyOf] at h <;> subst h <;> simp
  unfold isi at e
  split at e
  · rename_i hb
    subst hb
    cases e
    rcases ha with rfl | rfl | rfl | rfl | rfl | rfl | rfl <;> decide +kernel
  · split at e
    · rename_i hb
      cases e
      rcases hb with rfl | rfl | rfl | rfl | rfl <;> rcases ha with rfl | rfl | rfl | rfl | rfl | rfl | rfl <;> decide +kernel
    · cases e
theorem Kf.ty {v : V} {d : D} {n : String} (h : Kf K Z H v d) (e : tyOf d = some n) : TyX K H v (.type n) := by
  cases d with
  | non => cases e; cases Rp.nonE h; exact .base .non
  | bl b => cases e; cases Rp.blE h; exact .base (.bl b)
  | int b => cases e; cases Rp.intE h; exact .base (.int b)
  | str b => cases e; cases Rp.strE h; exact .base (.str b)
  | tup ds =>
    cases e
    cases h with
    | tup s r =>
      exact .base (.tup s)
  | con ds =>
    cases e
    cases h with
    | con s r =>
      obtain ⟨o, its, m, s, c, _⟩ := s
      exact .kTuple s c
  | lst ds => cases e; obtain ⟨a, vs, rfl, ha, _⟩ := h; exact .base (.lst ha)
  | dK ds =>
    cases e
    obtain ⟨a, vs, rfl, ha, _⟩ := h
    rcases ha with ha | ⟨o, ha⟩
    · exact .base (.dK ha)
    · exact .fDict ha
  | dT ds => cases e; obtain ⟨a, vs, rfl, ha, _⟩ := h; exact .base (.dT ha)
  | _ => simp [tyOf] at e
def gIsi : List D → Option (D × Nat)
  | [d, .ty b] => (tyOf d).bind fun a => (isi a b).map fun r => (.bl r, 9)
  | [d, .tup [.ty b, .ty c]] => (tyOf d).bind fun a => (isi a b).bind fun r => (isi a c).map fun r2 => (.bl (r || r2), 9)
  | _ => none
theorem isi_any {d : D} {a b c : String} {r r2 : Bool} (h : tyOf d = some a) (e : isi a b = some r) (e2 : isi a c = some r2) : PySem.W.kitAny K (.type a) [.type b, .type c] = some (r || r2) := by
  refine kitAny_cons (kit_ty (isi_kit h e)) (fun z => ?_) fun z => by rw [z]; rfl
  rw [z, Bool.false_or]
  exact kitAny_cons (kit_ty (isi_kit h e2)) (fun z => by rw [z]; exact kitAny_nil) fun z => z
theorem al_isi : AL K (fun vs H Q => rIsi K vs H Q ∨ rIsiT K vs H Q ∨ rIsiK K vs H Q) gIsi := by
  intro Z H vs ds d n Q hz k e q
  unfold gIsi at e
  split at e
  · rename_i d b
    cases e1 : tyOf d with
    | none => rw [e1] at e; cases e
    | some a =>
      rw [e1] at e
      simp only [Option.bind_some] at e
      cases e2 : isi a b with
      | none => rw [e2] at e; cases e
      | some r =>
        rw [e2] at e
        cases e
        obtain ⟨x, y, rfl, h1, h2⟩ := k.two
        cases (show Rp K Z H y (.ty b) from h2)
        exact .inl ⟨x, _, _, _, r, rfl, .ty b, h1.ty e1, kit_ty (isi_kit e1 e2), fin_imm (Z := Z) (.bl _) (by simp) q⟩
  · rename_i d b c
    cases e1 : tyOf d with
    | none => rw [e1] at e; cases e
    | some a =>
      rw [e1] at e
      simp only [Option.bind_some] at e
      cases e2 : isi a b with
      | none => rw [e2] at e; cases e
      | some r =>
        rw [e2] at e
        simp only [Option.bind_some] at e
        cases e3 : isi a c with
        | none => rw [e3] at e; cases e
        | some r2 =>
          rw [e3] at e
          cases e
          obtain ⟨x, y, rfl, h1, h2⟩ := k.two
          have kk := isi_any (K := K) e1 e2 e3
          cases (show Rp K Z H y (.tup [.ty b, .ty c]) from h2) with
          | tup s rr =>
            obtain ⟨v1, v2, rfl, r1, r3⟩ := rr.two
            cases r1
            cases r3
            exact .inr (.inl ⟨x, _, _, _, _, _, rfl, s, .cons (.ty b) (.cons (.ty c) .nil), h1.ty e1, kk, fin_imm (Z := Z) (.bl _) (by simp) q⟩)
  · cases e
end
end Zk
namespace Zk
open PySem PySem.Spec PyProof.Rows L2

section
variable {K : PySem.W.Frag} {Z Z' : Addr → Prop} {H H' : Hp} {σ : L2.St} {E E' : Ev} {R R' : Rs}
/-- taken items -/
abbrev TL (K : PySem.W.Frag) (Z : Addr → Prop) (H : Hp) : List V → List (D × Nat) → List (List Addr) → Prop := All3 fun v dn rs => Own K Z H dn.2 v dn.1 rs
def tkL (E : Ev) : List Op → Option (List (D × Nat) × Ev)
  | [] => some ([], E)
  | o :: os => (tk E o).bind fun p => (tkL p.2.2 os).map fun q => ((p.1, p.2.1) :: q.1, q.2)
theorem S.takeL : ∀ {vs : List V} {os : List Op} {rss : List (List Addr)} {ds : List (D × Nat)} {Z : Addr → Prop} {E E' : Ev} {R : Rs}, S K Z H σ E R → All3 (OV K Z H σ) vs os rss → (∀ a ∈ rss.flatten, ¬ ow R a) → tkL E os = some (ds, E') →
    ∃ Zf R', S K Zf H σ E' R' ∧ Step Z H (ow R) Zf H (ow R') ∧ TL K Zf H vs ds rss ∧ (∀ a ∈ rss.flatten, ¬ ow R' a) ∧ (∀ a, ow R' a → ow R a)
  | _, _, _, _, Z, E, E', R, s, .nil, no, e => by
    cases e
    exact ⟨Z, R, s, .refl, .nil, no, fun _ h => h⟩
  | _, _, _, _, Z, E, E', R, s, .cons (a := v) (b := o) (bs := os) (c := rs) (cs := rss) h t, no, e => by
    simp only [tkL] at e
    have no1 : ∀ a ∈ rs, ¬ ow R a := fun a m => no a (by rw [List.flatten_cons, List.mem_append]; exact .inl m)
    have no2 : ∀ a ∈ rss.flatten, ¬ ow R a := fun a m => no a (by rw [List.flatten_cons, List.mem_append]; exact .inr m)
    cases q : tk E o with
    | none => rw [q] at e; cases e
    | some p =>
      obtain ⟨d, n, E1⟩ := p
      rw [q] at e
      cases q2 : tkL E1 os with
      | none => simp only [Option.bind_some, q2] at e; cases e
      | some p2 =>
        obtain ⟨ds, E2⟩ := p2
        simp only [Option.bind_some, q2, Option.map_some, Option.some.injEq, Prod.mk.injEq] at e
        obtain ⟨rfl, rfl⟩ := e
        obtain ⟨Z1, R1, s1, t1, o1, n1, sub1⟩ := s.take h no1 q
        have a1 : All3 (OV K Z1 H σ) _ os rss := t.imp fun v' o' rs' m hh => (s.pendO t1 hh fun a ma => no2 a (mem_flatten_of m ma)).1
        obtain ⟨Zf, R2, s2, t2, tl2, n2, sub2⟩ := S.takeL s1 a1 (fun a m z => no2 a m (sub1 a z)) q2
        obtain ⟨k1, k2⟩ := s1.pend t2 o1 n1
        refine ⟨Zf, R2, s2, t1.trans t2, .cons k1 tl2, fun a m => ?_, fun a z => sub1 a (sub2 a z)⟩
        rw [List.flatten_cons, List.mem_append] at m
        rcases m with m | m
        · exact k2 a m
        · exact n2 a m
theorem TL.there {vs : List V} {ds : List (D × Nat)} {rss : List (List Addr)} (h : TL K Z H vs ds rss) : ∀ a ∈ rss.flatten, H a ≠ none := by
  induction h with
  | nil => intro a m; simp at m
  | cons h t ih =>
    intro a m
    rw [List.flatten_cons, List.mem_append] at m
    rcases m with m | m
    · exact Own.there h a m
    · exact ih a m
theorem TL.notZ {vs : List V} {ds : List (D × Nat)} {rss : List (List Addr)} (h : TL K Z H vs ds rss) : ∀ a ∈ rss.flatten, ¬ Z a := by
  induction h with
  | nil => intro a m; simp at m
  | cons h t ih =>
    intro a m
    rw [List.flatten_cons, List.mem_append] at m
    rcases m with m | m
    · exact (Own.mut h a m).2
    · exact ih a m
theorem TL.froz (p : Pers Z H Z' H') {vs : List V} {ds : List (D × Nat)} {rss : List (List Addr)} (h : TL K Z H vs ds rss) (k : ∀ a ∈ rss.flatten, H' a = H a ∧ Z' a) : Rps K Z' H' vs (ds.map (·.1)) := by
  induction h with
  | nil => exact .nil
  | cons h t ih =>
    refine .cons (Own.freeze p (fun a m => k a (by rw [List.flatten_cons, List.mem_append]; exact .inl m)) h) (ih fun a m => k a (by rw [List.flatten_cons, List.mem_append]; exact .inr m))
theorem TL.keep (p : Pers Z H Z' H') {vs : List V} {ds : List (D × Nat)} {rss : List (List Addr)} (h : TL K Z H vs ds rss) (k : ∀ a ∈ rss.flatten, H' a = H a ∧ ¬ Z' a) : TL K Z' H' vs ds rss :=
  All3.imp h fun v d rs m o => o.keep p fun a ma => k a (mem_flatten_of m ma)
theorem TL.len {vs : List V} {ds : List (D × Nat)} {rss : List (List Addr)} (h : TL K Z H vs ds rss) : vs.length = ds.length := by
  induction h with
  | nil => rfl
  | cons _ _ ih => simp [ih]
/-- how deep a new list of taken items is ours: all items unchangeable; all others of one depth; else they are frozen -/
def uni (ds : List (D × Nat)) : Nat :=
  if imms (ds.map (·.1)) = true then 9 else
    match ds.find? (fun d => !imm d.1) with
    | some d => if ds.all (fun e => imm e.1 || e.2 == d.2) = true then d.2 + 1 else 1
    | none => 9
theorem TL.all {n : Nat} : ∀ {vs : List V} {ds : List (D × Nat)} {rss : List (List Addr)}, TL K Z H vs ds rss → ds.all (fun e => imm e.1 || e.2 == n) = true → All3 (Own K Z H n) vs (ds.map (·.1)) rss
  | _, _, _, .nil, _ => .nil
  | _, _, _, .cons (b := d) (c := rs) h t, a => by
    simp only [List.all_cons, Bool.and_eq_true, Bool.or_eq_true, beq_iff_eq] at a
    refine .cons ?_ (TL.all t a.2)
    rcases a.1 with i | e
    · obtain ⟨rfl, r⟩ := h.imm i
      exact .ofImm r i
    · rw [← e]; exact h
theorem TL.immR : ∀ {vs : List V} {ds : List (D × Nat)} {rss : List (List Addr)}, TL K Z H vs ds rss → imms (ds.map (·.1)) = true → Rps K Z H vs (ds.map (·.1)) ∧ rss.flatten = []
  | _, _, _, .nil, _ => ⟨.nil, rfl⟩
  | _, _, _, .cons h t, i => by
    simp only [List.map_cons, imms_cons, Bool.and_eq_true] at i
    obtain ⟨rfl, r⟩ := h.imm i.1
    obtain ⟨r2, e2⟩ := TL.immR t i.2
    exact ⟨.cons r r2, by rw [List.flatten_cons, e2]; rfl⟩
/-- a new list of taken items -/
theorem S.newList (s : S K Z H σ E R) {vs : List V} {ds : List (D × Nat)} {rss : List (List Addr)} (h : TL K Z H vs ds rss) (nd : rss.flatten.Nodup) (no : ∀ a ∈ rss.flatten, ¬ ow R a) {p : Addr} (hp : H p = none) :
    ∃ Zf rs, S K Zf (upd H p (.lst vs)) σ E R ∧ Own K Zf (upd H p (.lst vs)) (uni ds) (.ref p) (.lst (ds.map (·.1))) rs ∧ rs.Nodup ∧ (∀ a ∈ rs, a = p ∨ a ∈ rss.flatten) ∧ (∀ a, Z a → Zf a) ∧ (∀ a, Zf a → Z a ∨ a ∈ rss.flatten) := by
  have m : More H (upd H p (.lst vs)) := .upd hp
  have th := TL.there h
  have pne : ∀ a ∈ rss.flatten, a ≠ p := fun a ma e => th a ma (by rw [e]; exact hp)
  have nz : ¬ Z p := fun z => s.zd p z hp
  have froz : ∃ Zf rs, S K Zf (upd H p (.lst vs)) σ E R ∧ Own K Zf (upd H p (.lst vs)) 1 (.ref p) (.lst (ds.map (·.1))) rs ∧ rs.Nodup ∧ (∀ a ∈ rs, a = p ∨ a ∈ rss.flatten) ∧ (∀ a, Z a → Zf a) ∧ (∀ a, Zf a → Z a ∨ a ∈ rss.flatten) := by
    have s1 := (s.chill no th).more m
    refine ⟨_, [p], s1, ⟨p, vs, _, rfl, upd_same, fun z => ?_, All3.ofRps0 (h.froz (Z' := fun a => Z a ∨ a ∈ rss.flatten) (m.pers fun _ h => .inl h) fun a ma => ⟨upd_ne (pne a ma), .inr ma⟩), by rw [flat_nils]⟩, by simp, fun a ma => .inl (by simpa using ma), fun _ h => .inl h, fun _ h => h⟩
    rcases z with z | z
    · exact nz z
    · exact pne p z rfl
  unfold uni
  split
  · rename_i i
    obtain ⟨r, e⟩ := h.immR i
    exact ⟨Z, [p], s.more m, ⟨p, vs, _, rfl, upd_same, nz, All3.ofRpsI (r.pers (m.pers fun _ h => h)) i, by rw [flat_nils]⟩, by simp, fun a ma => .inl (by simpa using ma), fun _ h => h, fun _ h => .inl h⟩
  · split
    · rename_i d hd
      split
      · rename_i a
        have h2 : TL K Z (upd H p (.lst vs)) vs ds rss := h.keep (m.pers fun _ h => h) fun a ma => ⟨upd_ne (pne a ma), TL.notZ h a ma⟩
        refine ⟨Z, p :: rss.flatten, s.more m, ⟨p, vs, rss, rfl, upd_same, nz, h2.all a, rfl⟩, List.nodup_cons.mpr ⟨fun z => pne p z rfl, nd⟩, fun a ma => List.mem_cons.mp ma, fun _ h => h, fun _ h => .inl h⟩
      · exact froz
    · rename_i hn _ hi
      exact absurd (by
        rw [imms_all, List.all_map, List.all_eq_true]
        intro x hx
        have := List.find?_eq_none.mp hi x hx
        simpa using this) hn
def mLst (fa : Fa) : Fe := fun E => (fa E).bind fun p => (tkL p.2 p.1).bind fun q => if q.1.length ≤ sizeLine then some (.val (.lst (q.1.map (·.1))) (uni q.1), q.2) else none
def mTup (fa : Fa) : Fe := fun E => (fa E).bind fun p => (tkL p.2 p.1).bind fun q => if q.1.length ≤ sizeLine then some (.val (.tup (q.1.map (·.1))) 0, q.2) else none
theorem take_of {fa : Fa} {g : List (D × Nat) → Option (D × Nat)} {f : Fe} (hf : ∀ E, f E = (fa E).bind fun p => (tkL p.2 p.1).bind fun q => (g q.1).map fun d => (.val d.1 d.2, q.2)) {Q : VK} {r : List V → Hp → Prop}
    (h : ∀ Z0 H0 R0 Z H E R vs ds d n rss, S K Z H σ E R → Step Z0 H0 (ow R0) Z H (ow R) → TL K Z H vs ds rss → Fr R0 H0 R rss.flatten → g ds = some (d, n) →
      (∀ v Z' H' rs, S K Z' H' σ E R → Step Z0 H0 (ow R0) Z' H' (ow R) → Own K Z' H' n v d rs → Fr R0 H0 R rs → Q v H') → r vs H) {H : Hp} (q : eOf K f σ H Q) : aOf K fa σ H r := by
  obtain ⟨Z, E, R, s, o, E', e, q⟩ := q
  rw [hf] at e
  cases e1 : fa E with
  | none => rw [e1] at e; cases e
  | some p =>
    obtain ⟨os, E1⟩ := p
    rw [e1] at e
    simp only [Option.bind_some] at e
    cases e2 : tkL E1 os with
    | none => rw [e2] at e; cases e
    | some p2 =>
      obtain ⟨ds, E2⟩ := p2
      rw [e2] at e
      simp only [Option.bind_some] at e
      cases e3 : g ds with
      | none => rw [e3] at e; cases e
      | some d =>
        rw [e3] at e
        cases e
        refine ⟨Z, E, R, s, os, E1, e1, fun vs Z1 H1 R1 rss s1 t1 a1 f1 => ?_⟩
        obtain ⟨Zf, R2, s2, t2, tl, no2, sub⟩ := s1.takeL a1 f1.no e2
        exact h Z H R Zf H1 _ R2 vs ds d.1 d.2 rss s2 (t1.trans t2) tl ⟨f1.nd, no2, f1.of⟩ e3 fun v Z' H' rs s' t' o' f' => q v Z' H' R2 rs s' t' o' f'
theorem lst_of {fa : Fa} {H : Hp} {Q : VK} (q : eOf K (mLst fa) σ H Q) : aOf K fa σ H fun xs H1 => xs.length ≤ sizeLine ∧ ∀ p, H1 p = none → Q (.ref p) (upd H1 p (.lst xs)) :=
  take_of (g := fun ds => if ds.length ≤ sizeLine then some (.lst (ds.map (·.1)), uni ds) else none) (fun E => by
    unfold mLst
    congr 1; funext p; congr 1; funext q
    split <;> rfl) (fun Z0 H0 R0 Z H E R vs ds d n rss s t tl fr e q => by
    split at e
    · rename_i hl
      cases e
      refine ⟨by rw [tl.len]; exact hl, fun p hp => ?_⟩
      obtain ⟨Zf, rs, s2, o2, nd2, in2, zz, zn⟩ := s.newList tl fr.nd fr.no hp
      refine q _ Zf _ rs s2 (t.fin zz (fun a z => ?_) (.upd hp) fun a h => .inl h) o2 ⟨nd2, fun a m => ?_, fun a m => ?_⟩
      · rcases zn a z with z | z
        · exact .inl z
        · rcases fr.of a z with z | z
          · exact .inr (.inr (.inl z))
          · exact .inr (.inr (.inr z))
      · rcases in2 a m with rfl | m
        · exact fun z => s.there z hp
        · exact fr.no a m
      · rcases in2 a m with rfl | m
        · by_cases c : H0 a = none
          · exact .inr c
          · exact absurd hp (t.dm a c)
        · exact fr.of a m
    · cases e) q
theorem tup_of {fa : Fa} {H : Hp} {Q : VK} (q : eOf K (mTup fa) σ H Q) : aOf K fa σ H fun xs H1 => xs.length ≤ sizeLine ∧ ∀ p, H1 p = none → Q (.ref p) (upd H1 p (.tup xs)) :=
  take_of (g := fun ds => if ds.length ≤ sizeLine then some (.tup (ds.map (·.1)), 0) else none) (fun E => by
    unfold mTup
    congr 1; funext p; congr 1; funext q
    split <;> rfl) (fun Z0 H0 R0 Z H E R vs ds d n rss s t tl fr e q => by
    split at e
    · rename_i hl
      cases e
      refine ⟨by rw [tl.len]; exact hl, fun p hp => ?_⟩
      have m : More H (upd H p (.tup vs)) := .upd hp
      have th := TL.there tl
      have s1 := (s.chill fr.no th).more m
      refine q _ _ _ [] s1 (t.fin (fun _ h => .inl h) (fun a z => ?_) m fun a h => .inl h) ⟨rfl, .tup upd_same (tl.froz (m.pers fun _ h => .inl h) fun a ma => ⟨upd_ne fun e => th a ma (by rw [e]; exact hp), .inr ma⟩)⟩ .nil
      rcases z with z | z
      · exact .inl z
      · rcases fr.of a z with z | z
        · exact .inr (.inr (.inl z))
        · exact .inr (.inr (.inr z))
    · cases e) q
end
section
variable {X : Cx} {a b e : Expr} {es : List Expr} {fa fb fe : Fe} {fs : Fa} {pos : PySem.Pos}
theorem ae_lst (h : AA X es fs) : AE X (.List es pos) (mLst fs) := PE.mono (pe_lst h) fun _ _ _ q => lst_of q
theorem ae_tup {x1} (h : AA X es fs) : AE X (.Tuple es x1 pos) (mTup fs) := PE.mono (pe_tup h) fun _ _ _ q => tup_of q

/-- the ends of a slice: None for a part left out -/
def cutD (xs : List D) (lo hi : Option Int) : List D := (xs.drop (HT.sIx xs.length 0 lo)).take (HT.sIx xs.length xs.length hi - HT.sIx xs.length 0 lo)
def part : D → Option (Option Int)
  | .non => some none
  | .int i => some (some i)
  | _ => none
def gSl : List D → Option (D × Nat)
  | [.lst ds, l, h] => (part l).bind fun l => (part h).map fun h => (.lst (cutD ds l h), lev (cutD ds l h))
  | [.scr ns, l, h] => (part l).bind fun l => (part h).map fun h => (.lst (cutD (ns.map D.int) l h), lev (cutD (ns.map D.int) l h))
  | [.tup ds, l, h] => (part l).bind fun l => (part h).map fun h => (.tup (cutD ds l h), 0)
  | [.str z, l, h] => (part l).bind fun l => (part h).bind fun h => if z.length ≤ sizeLine then some (.str (cutS z l h), 9) else none
  | _ => none
end
section
variable {K : PySem.W.Frag} {Z Z' : Addr → Prop} {H H' : Hp} {σ : L2.St}
theorem Rps.cut {vs : List V} {ds : List D} (r : Rps K Z H vs ds) (lo hi : Option Int) : Rps K Z H (cutV vs lo hi) (cutD ds lo hi) := by
  unfold cutV cutD
  rw [r.len]
  exact (r.drop _).take _
def rSls (K : PySem.W.Frag) : V → Option Int → Option Int → Hp → VK → Prop := fun x lo hi H Q => rSlL K x lo hi H Q ∨ rSlA K x lo hi H Q ∨ rSlS x lo hi H Q
def rS3 (K : PySem.W.Frag) : List V → Hp → VK → Prop := fun vs H Q => ∃ x l h lo hi, vs = [x, l, h] ∧ ((l = .non ∧ lo = none) ∨ ∃ i, l = .int i ∧ lo = some i) ∧ ((h = .non ∧ hi = none) ∨ ∃ i, h = .int i ∧ hi = some i) ∧ rSls K x lo hi H Q
theorem Kf.part {v : V} {d : D} {o : Option Int} (h : Kf K Z H v d) (e : part d = some o) : (v = .non ∧ o = none) ∨ ∃ i, v = .int i ∧ o = some i := by
  cases d with
  | non => cases e; cases Rp.nonE h; exact .inl ⟨rfl, rfl⟩
  | int i => cases e; cases Rp.intE h; exact .inr ⟨i, rfl, rfl⟩
  | _ => simp [Zk.part] at e
theorem Kfs.three {vs : List V} {a b c : D} (h : Kfs K Z H vs [a, b, c]) : ∃ x y z, vs = [x, y, z] ∧ Kf K Z H x a ∧ Kf K Z H y b ∧ Kf K Z H z c := by
  cases h with
  | cons h t =>
    obtain ⟨y, z, rfl, h2, h3⟩ := t.two
    exact ⟨_, _, _, rfl, h, h2, h3⟩
theorem al_sl : AL K (rS3 K) gSl := by
  intro Z H vs ds d n Q hz k e q
  unfold gSl at e
  split at e
  · rename_i ds l h
    cases e1 : part l with
    | none => rw [e1] at e; cases e
    | some lo =>
      cases e2 : part h with
      | none => rw [e1, e2] at e; cases e
      | some hi =>
        rw [e1, e2] at e
        cases e
        obtain ⟨x, y, z, rfl, ⟨p, xs, rfl, hp, r⟩, h2, h3⟩ := k.three
        exact ⟨_, _, _, lo, hi, rfl, h2.part e1, h3.part e2, .inl ⟨p, xs, rfl, .inl (.inl hp), fin_lst hz (r.cut lo hi) q⟩⟩
  · rename_i ds l h
    cases e1 : part l with
    | none => rw [e1] at e; cases e
    | some lo =>
      cases e2 : part h with
      | none => rw [e1, e2] at e; cases e
      | some hi =>
        rw [e1, e2] at e
        cases e
        obtain ⟨x, y, z, rfl, h1, h2, h3⟩ := k.three
        cases h1 with
        | scr s => exact ⟨_, _, _, lo, hi, rfl, h2.part e1, h3.part e2, .inl ⟨_, _, rfl, s.sq, fin_lst hz ((Rps.ofInts (K := K) (Z := Z) (H := H) ds).cut lo hi) q⟩⟩
  · rename_i ds l h
    cases e1 : part l with
    | none => rw [e1] at e; cases e
    | some lo =>
      cases e2 : part h with
      | none => rw [e1, e2] at e; cases e
      | some hi =>
        rw [e1, e2] at e
        cases e
        obtain ⟨x, y, z, rfl, h1, h2, h3⟩ := k.three
        cases h1 with
        | tup s r =>
          refine ⟨_, _, _, lo, hi, rfl, h2.part e1, h3.part e2, .inr (.inl ⟨_, _, rfl, .of s, fun c => ?_, fun c => fin_tup (r.cut lo hi) q⟩)⟩
          have e4 : cutD ds lo hi = ds := by
            unfold cutD
            rw [← r.len, c.1, c.2]
            simp [r.len]
          rw [e4] at q
          exact q _ H [] (.refl _) ⟨rfl, .tup s r⟩ List.nodup_nil fun a m => by simp at m
  · rename_i z0 l h
    cases e1 : part l with
    | none => rw [e1] at e; cases e
    | some lo =>
      cases e2 : part h with
      | none => rw [e1, e2] at e; cases e
      | some hi =>
        rw [e1, e2] at e
        simp only [Option.bind_some] at e
        split at e
        · rename_i hl
          cases e
          obtain ⟨x, y, z, rfl, h1, h2, h3⟩ := k.three
          cases Rp.strE h1
          exact ⟨_, _, _, lo, hi, rfl, h2.part e1, h3.part e2, .inr (.inr ⟨z0, rfl, hl, fin_imm (Z := Z) (.str _) (by simp) q⟩)⟩
        · cases e
  · cases e
end
section
variable {X : Cx} {a b e : Expr} {es : List Expr} {fa fb fe fl fh : Fe} {fs : Fa} {pos : PySem.Pos} {lo hi : Option Expr}
def Pt (v : V) (o : Option Int) : Prop := (v = .non ∧ o = none) ∨ ∃ i, v = .int i ∧ o = some i
/-- a part of a slice -/
def AO (X : Cx) (e : Option Expr) (f : Fe) : Prop := ∃ t, PO X e t ∧ ∀ σ H (Q : VK) (Q' : Option Int → Hp → Prop), (∀ v H1, Q v H1 → ∀ o, Pt v o → Q' o H1) → eOf X.K f σ H Q → t σ H Q'
theorem ao_none : AO X none (mC .non) := ⟨_, po_none, fun σ H Q Q' h q => h .non H (mC_of (v := .non) (fun _ _ => .non) (by simp) q) none (.inl ⟨rfl, rfl⟩)⟩
def mInt (f : Fe) : Fe := fun E => (f E).bind fun p => (rd p.2 p.1).bind fun d => match d with
  | .int i => some (.val (.int i) 9, p.2)
  | _ => none
theorem mInt_of {K : PySem.W.Frag} {f : Fe} {σ : L2.St} {H : Hp} {Q : VK} (q : eOf K (mInt f) σ H Q) : eOf K f σ H fun v H1 => ∃ i, v = .int i ∧ Q (.int i) H1 := by
  obtain ⟨Z, E, R, s, o, E', e, q⟩ := q
  unfold mInt at e
  cases e1 : f E with
  | none => rw [e1] at e; cases e
  | some p =>
    obtain ⟨o1, E1⟩ := p
    rw [e1] at e
    simp only [Option.bind_some] at e
    cases e2 : rd E1 o1 with
    | none => rw [e2] at e; cases e
    | some d =>
      rw [e2] at e
      simp only [Option.bind_some] at e
      split at e
      · cases e
        refine ⟨Z, E, R, s, o1, _, e1, fun v Z' H' R' rs s' t' o' f' => ?_⟩
        exact ⟨_, (s'.read o' e2).intE, q _ Z' H' R' [] s' t' (Own.ofImm (.int _) (by simp)) .nil⟩
      · cases e
theorem ao_some (h : AE X e fe) : AO X (some e) (mInt fe) := ⟨_, po_some h, fun σ H Q Q' hh q => by
  obtain ⟨Z, E, R, s, o, E', e, q⟩ := mInt_of q
  refine ⟨Z, E, R, s, o, E', e, fun v Z' H' R' rs s' t' o' f' => ?_⟩
  obtain ⟨i, ev, q⟩ := q v Z' H' R' rs s' t' o' f'
  exact ⟨i, ev, hh _ _ q _ (.inr ⟨i, rfl, rfl⟩)⟩⟩
def mSl (a l h : Fe) : Fe := mOp gSl (mAc a (mAc l (mAc h mA0)))
theorem eOf_imp {K : PySem.W.Frag} {f : Fe} {σ : L2.St} {H : Hp} {Q Q' : VK} (h : ∀ v H1, Q v H1 → Q' v H1) (q : eOf K f σ H Q) : eOf K f σ H Q' := by
  obtain ⟨Z, E, R, s, o, E', e, q⟩ := q
  exact ⟨Z, E, R, s, o, E', e, fun v Z' H' R' rs s' t' o' f' => h _ _ (q v Z' H' R' rs s' t' o' f')⟩
theorem ae_sl {p2 : PySem.Pos} (ha : AE X a fa) (hl : AO X lo fl) (hh : AO X hi fh) : AE X (.Subscript a (.Slice lo hi none p2) pos) (mSl fa fl fh) := by
  obtain ⟨tl, h1, k1⟩ := hl
  obtain ⟨th, h2, k2⟩ := hh
  refine PE.mono (pe_slice (sl_list.or (sl_tupA.or sl_str)) ha h1 h2) fun σ H Q q => ?_
  refine eOf_imp (fun x H1 q1 => ?_) (aOf_c (op_of al_sl q))
  refine k1 σ H1 _ _ (fun y H2 q2 lo hlo => ?_) (aOf_c q1)
  refine k2 σ H2 _ _ (fun z H3 q3 hi hhi => ?_) (aOf_c q2)
  obtain ⟨x', y', z', lo', hi', e, p1, p2, r⟩ := aOf_0 q3
  cases e
  have e1 : lo' = lo := by
    rcases p1 with ⟨a, b⟩ | ⟨i, a, b⟩ <;> rcases hlo with ⟨c, d⟩ | ⟨j, c, d⟩ <;> subst_vars <;> simp_all
  have e2 : hi' = hi := by
    rcases p2 with ⟨a, b⟩ | ⟨i, a, b⟩ <;> rcases hhi with ⟨c, d⟩ | ⟨j, c, d⟩ <;> subst_vars <;> simp_all
  subst e1 e2
  exact r
end
end Zk
namespace Zk
open PySem PySem.Spec PyProof.Rows L2

def kD : Key → D
  | .inl i => .int i
  | .inr x => .str x
def keyOf : D → Option Key
  | .int i => some (.inl i)
  | .str x => some (.inr x)
  | _ => none
def keysOf : List D → Option (List Key)
  | [] => some []
  | d :: ds => (keyOf d).bind fun k => (keysOf ds).map fun ks => k :: ks
def valD {κ : Type} [DecidableEq κ] (kvs : List (κ × D)) (k : κ) : Option D := (kvs.find? fun kv => decide (kv.1 = k)).map (·.2)
def putD {κ : Type} [DecidableEq κ] (kvs : List (κ × D)) (k : κ) (v : D) : List (κ × D) :=
  if (kvs.any fun kv => decide (kv.1 = k)) = true then kvs.map (fun kv => if kv.1 = k then (kv.1, v) else kv) else kvs ++ [(k, v)]
section
variable {K : PySem.W.Frag} {Z Z' : Addr → Prop} {H H' : Hp} {σ : L2.St} {κ : Type} [DecidableEq κ]
/-- two rows of keys and values that stand for one another -/
def KR (K : PySem.W.Frag) (Z : Addr → Prop) (H : Hp) (kvs : List (κ × V)) (kds : List (κ × D)) : Prop := kvs.map (·.1) = kds.map (·.1) ∧ Rps K Z H (kvs.map (·.2)) (kds.map (·.2))
theorem KR.nil : KR K Z H ([] : List (κ × V)) [] := ⟨rfl, .nil⟩
theorem KR.cases : ∀ {kvs : List (κ × V)} {kds : List (κ × D)}, KR K Z H kvs kds → (kvs = [] ∧ kds = []) ∨ ∃ k v d r s, kvs = (k, v) :: r ∧ kds = (k, d) :: s ∧ Rp K Z H v d ∧ KR K Z H r s
  | [], [], _ => .inl ⟨rfl, rfl⟩
  | [], _ :: _, h => by simp [KR] at h
  | _ :: _, [], h => by simp [KR] at h
  | (k, v) :: r, (k', d) :: s, h => by
    obtain ⟨h1, h2⟩ := h
    simp only [List.map_cons, List.cons.injEq] at h1
    cases h1.1
    simp only [List.map_cons] at h2
    cases h2 with
    | cons a b => exact .inr ⟨k, v, d, r, s, rfl, rfl, a, h1.2, b⟩
theorem KR.cons {k : κ} {v : V} {d : D} {r : List (κ × V)} {s : List (κ × D)} (h : Rp K Z H v d) (t : KR K Z H r s) : KR K Z H ((k, v) :: r) ((k, d) :: s) := ⟨by simp [t.1], .cons h t.2⟩
theorem KR.len {kvs : List (κ × V)} {kds : List (κ × D)} (h : KR K Z H kvs kds) : kvs.length = kds.length := by
  have := congrArg List.length h.1
  simpa using this
theorem KR.val : ∀ {kvs : List (κ × V)} {kds : List (κ × D)} (k : κ), KR K Z H kvs kds → (valV kvs k = none ∧ valD kds k = none) ∨ ∃ v d, valV kvs k = some v ∧ valD kds k = some d ∧ Rp K Z H v d := by
  intro kvs
  induction kvs with
  | nil =>
    intro kds k h
    rcases h.cases with ⟨_, rfl⟩ | ⟨_, _, _, _, _, e, _⟩
    · exact .inl ⟨rfl, rfl⟩
    · cases e
  | cons p r ih =>
    intro kds k h
    rcases h.cases with ⟨e, _⟩ | ⟨k', v, d, r', s, e, rfl, h1, h2⟩
    · cases e
    · cases e
      by_cases c : k' = k
      · subst c
        exact .inr ⟨v, d, by simp [valV], by simp [valD], h1⟩
      · have e1 : valV ((k', v) :: r) k = valV r k := by simp [valV, List.find?_cons, c]
        have e2 : valD ((k', d) :: s) k = valD s k := by simp [valD, List.find?_cons, c]
        rw [e1, e2]
        exact ih k h2
theorem KR.any {kvs : List (κ × V)} {kds : List (κ × D)} (h : KR K Z H kvs kds) (k : κ) : (kvs.any fun kv => decide (kv.1 = k)) = kds.any fun kv => decide (kv.1 = k) := by
  have e1 : (kvs.any fun kv => decide (kv.1 = k)) = (kvs.map (·.1)).any fun x => decide (x = k) := by rw [List.any_map]; rfl
  have e2 : (kds.any fun kv => decide (kv.1 = k)) = (kds.map (·.1)).any fun x => decide (x = k) := by rw [List.any_map]; rfl
  rw [e1, e2, h.1]
theorem KR.rep {v : V} {d : D} (k : κ) (hv : Rp K Z H v d) : ∀ {kvs : List (κ × V)} {kds : List (κ × D)}, KR K Z H kvs kds →
    KR K Z H (kvs.map fun kv => if kv.1 = k then (kv.1, v) else kv) (kds.map fun kv => if kv.1 = k then (kv.1, d) else kv) := by
  intro kvs
  induction kvs with
  | nil =>
    intro kds h
    rcases h.cases with ⟨_, rfl⟩ | ⟨_, _, _, _, _, e, _⟩
    · exact .nil
    · cases e
  | cons p r ih =>
    intro kds h
    rcases h.cases with ⟨e, _⟩ | ⟨k', v', d', r', s, e, rfl, h1, h2⟩
    · cases e
    · cases e
      simp only [List.map_cons]
      by_cases c : k' = k
      · rw [if_pos c, if_pos c]; exact .cons hv (ih h2)
      · rw [if_neg c, if_neg c]; exact .cons h1 (ih h2)
theorem KR.put {kvs : List (κ × V)} {kds : List (κ × D)} {v : V} {d : D} (h : KR K Z H kvs kds) (k : κ) (hv : Rp K Z H v d) : KR K Z H (putK kvs k v) (putD kds k d) := by
  unfold putK putD
  rw [h.any k]
  split
  · exact h.rep k hv
  · refine ⟨by simp [h.1], ?_⟩
    rw [List.map_append, List.map_append]
    exact h.2.append (.cons hv .nil)
theorem key_kV {v : V} {d : D} {k : Key} (h : Rp K Z H v d) (e : keyOf d = some k) : v = kV k := by
  cases d with
  | int i => cases e; exact h.intE
  | str x => cases e; exact h.strE
  | _ => simp [keyOf] at e
theorem keys_kV : ∀ {vs : List V} {ds : List D} {ks : List Key}, Rps K Z H vs ds → keysOf ds = some ks → vs = ks.map kV
  | _, _, _, .nil, e => by cases e; rfl
  | _, _, _, .cons (d := d) (ds := ds) h t, e => by
    simp only [keysOf] at e
    cases q : keyOf d with
    | none => rw [q] at e; cases e
    | some k =>
      rw [q] at e
      cases q2 : keysOf ds with
      | none => rw [q2] at e; cases e
      | some ks =>
        rw [q2] at e
        cases e
        simp [key_kV h q, keys_kV t q2]
/-- what a dict holds at a key, by data -/
def look : D → D → Option (Option D)
  | .dK kds, k => (keyOf k).map fun k => valD kds k
  | .dT kds, .tup ks => (keysOf ks).map fun k => valD kds k
  | _, _ => none
/-- by the heap -/
theorem look_get {x y : V} {d k : D} {o : Option D} (hd : Kf K Z H x d) (hk : Rp K Z' H y k) (e : look d k = some o) : ∃ a r, x = .ref a ∧ DGet H a y r ∧ IsD H a ∧ ((r = none ∧ o = none) ∨ ∃ v d', r = some v ∧ o = some d' ∧ Rp K Z H v d') := by
  cases d with
  | dK kds =>
    obtain ⟨a, kvs, rfl, ha, e1, r⟩ := hd
    simp only [look] at e
    cases q : keyOf k with
    | none => rw [q] at e; cases e
    | some k' =>
      rw [q] at e
      cases e
      cases key_kV hk q
      refine ⟨a, _, rfl, .inl ⟨kvs, k', ha, rfl, rfl⟩, .inl ⟨kvs, ha⟩, ?_⟩
      exact KR.val k' (⟨e1, r⟩ : KR K Z H kvs kds)
  | dT kds =>
    obtain ⟨a, kvs, rfl, ha, e1, r⟩ := hd
    cases k with
    | tup ks =>
      simp only [look] at e
      cases q : keysOf ks with
      | none => rw [q] at e; cases e
      | some k' =>
        rw [q] at e
        cases e
        cases hk with
        | tup hb rb =>
          cases keys_kV rb q
          refine ⟨a, _, rfl, .t ha hb, .inr ⟨kvs, .inl ha⟩, ?_⟩
          exact KR.val k' (⟨e1, r⟩ : KR K Z H kvs kds)
    | _ => simp [look] at e
  | _ => simp [look] at e
theorem Kf.rp {v : V} {d : D} (h : Kf K Z H v d) (i : imm d = true) : Rp K Z H v d := by
  cases d <;> first | exact h | simp at i
theorem look_key {d k : D} {o : Option D} (e : look d k = some o) : ∀ {y : V}, Kf K Z H y k → Rp K Z H y k := by
  intro y h
  cases k with
  | int i => exact h
  | str x => exact h
  | tup x => exact h
  | _ => cases d <;> simp [look, keyOf] at e
end
section
variable {X : Cx} {e : Expr}
theorem PE.or {t u : TE} (h : PE X e t) (h' : PE X e u) : PE X e fun σ H Q => t σ H Q ∨ u σ H Q := ⟨fun pins s σ H Q I q => q.elim (h.run pins s σ H Q I) (h'.run pins s σ H Q I)⟩
theorem PC.or {op : CmpOp} {a b : Expr} {t u : TE} (h : PC X op a b t) (h' : PC X op a b u) : PC X op a b fun σ H Q => t σ H Q ∨ u σ H Q := ⟨fun pins s σ H Q I q => q.elim (h.run pins s σ H Q I) (h'.run pins s σ H Q I)⟩
end
section
variable {K : PySem.W.Frag} {Z Z' : Addr → Prop} {H H' : Hp} {σ : L2.St}
theorem op_split {g gA gB : List D → Option (D × Nat)} {fa : Fa} (hg : ∀ ds, g ds = gA ds ∨ g ds = gB ds) {Q : VK} (q : eOf K (mOp g fa) σ H Q) : eOf K (mOp gA fa) σ H Q ∨ eOf K (mOp gB fa) σ H Q := by
  obtain ⟨Z, E, R, s, o, E', e, q⟩ := q
  have e0 := e
  unfold mOp at e
  cases e1 : fa E with
  | none => rw [e1] at e; cases e
  | some p =>
    rw [e1] at e
    simp only [Option.bind_some] at e
    cases e2 : rdL p.2 p.1 with
    | none => rw [e2] at e; cases e
    | some ds =>
      rw [e2] at e
      simp only [Option.bind_some] at e
      rcases hg ds with h | h
      · rw [h] at e
        refine .inl ⟨Z, E, R, s, o, E', ?_, q⟩
        unfold mOp
        rw [e1]; simp only [Option.bind_some, e2]; exact e
      · rw [h] at e
        refine .inr ⟨Z, E, R, s, o, E', ?_, q⟩
        unfold mOp
        rw [e1]; simp only [Option.bind_some, e2]; exact e
/-- d[k] -/
def gDg : List D → Option (D × Nat)
  | [d, k] => (look d k).bind fun o => o.map fun v => (v, 0)
  | _ => none
def rDg : R2 := fun x y H Q => ∃ a v, x = .ref a ∧ DGet H a y (some v) ∧ Q v H
theorem al_dg : AL K (two rDg) gDg := by
  intro Z H vs ds d n Q hz k e q
  unfold gDg at e
  split at e
  · rename_i d0 k0
    cases e1 : look d0 k0 with
    | none => rw [e1] at e; cases e
    | some o =>
      rw [e1] at e
      simp only [Option.bind_some] at e
      cases o with
      | none => cases e
      | some v0 =>
        cases e
        obtain ⟨x, y, rfl, h1, h2⟩ := k.two
        obtain ⟨a, r, rfl, g, _, c⟩ := look_get h1 (look_key e1 h2) e1
        rcases c with ⟨_, c⟩ | ⟨v, d', rfl, c, rv⟩
        · cases c
        · cases c
          exact ⟨_, _, rfl, a, v, rfl, g, q v H [] (.refl _) ⟨rfl, rv⟩ List.nodup_nil fun a m => by simp at m⟩
  · cases e
def gIxd : List D → Option (D × Nat) := fun ds => match ds with
  | .dK _ :: _ => gDg ds
  | .dT _ :: _ => gDg ds
  | _ => gIx ds
/-- x in a list, a tuple, a dict -/
def gIn (neg : Bool) : List D → Option (D × Nat)
  | [x, .lst ds] => if dat 64 x = true ∧ dat 64 (.lst ds) = true then some (.bl ((ds.any fun z => deq z x) ^^ neg), 9) else none
  | [x, .tup ds] => if dat 64 x = true ∧ dat 64 (.tup ds) = true then some (.bl ((ds.any fun z => deq z x) ^^ neg), 9) else none
  | _ => none
def gInD (neg : Bool) : List D → Option (D × Nat)
  | [k, d] => (look d k).map fun o => (.bl (o.isSome ^^ neg), 9)
  | _ => none
def rInT (K : PySem.W.Frag) (neg : Bool) : R2 := fun x y H Q => ∃ d ds, Dp K H x d ∧ Dp K H y (.tuple ds) ∧ SeqAt.shaped d = true ∧ SeqAt.shaped (.tuple ds) = true ∧ Q (.bl ((ds.any fun z => PyData.eqv z d) ^^ neg)) H
def rInL (K : PySem.W.Frag) (neg : Bool) : R2 := fun x y H Q => ∃ d ds, Dp K H x d ∧ Dp K H y (.list ds) ∧ SeqAt.shaped d = true ∧ SeqAt.shaped (.list ds) = true ∧ Q (.bl ((ds.any fun z => PyData.eqv z d) ^^ neg)) H
theorem any_py (ds : List D) (x : D) : ((pys ds).any fun z => PyData.eqv z (py x)) = ds.any fun z => deq z x := by
  rw [pys_map, List.any_map]; rfl
theorem al_in {neg : Bool} : AL K (two fun x y H Q => rInL K neg x y H Q ∨ rInT K neg x y H Q) (gIn neg) := by
  intro Z H vs ds d n Q hz k e q
  unfold gIn at e
  split at e
  · split at e
    · rename_i h
      cases e
      obtain ⟨x, y, rfl, h1, h2⟩ := k.two
      have r1 : Rp K (fun _ => True) H x _ := dat_rp h1 h.1
      have r2 : Rp K (fun _ => True) H y _ := dat_rp h2 h.2
      refine ⟨x, y, rfl, .inl ⟨_, _, dat_dp 64 x _ h.1 r1, dat_dp 64 y _ h.2 r2, dat_shaped h.1, dat_shaped h.2, ?_⟩⟩
      rw [any_py]
      exact fin_imm (Z := Z) (.bl _) (by simp) q
    · cases e
  · split at e
    · rename_i h
      cases e
      obtain ⟨x, y, rfl, h1, h2⟩ := k.two
      have r1 : Rp K (fun _ => True) H x _ := dat_rp h1 h.1
      have r2 : Rp K (fun _ => True) H y _ := dat_rp h2 h.2
      refine ⟨x, y, rfl, .inr ⟨_, _, dat_dp 64 x _ h.1 r1, dat_dp 64 y _ h.2 r2, dat_shaped h.1, dat_shaped h.2, ?_⟩⟩
      rw [any_py]
      exact fin_imm (Z := Z) (.bl _) (by simp) q
    · cases e
  · cases e
where
  dat_rp {Z : Addr → Prop} {H : Hp} {v : V} {d : D} (h : Kf K Z H v d) (_ : dat 64 d = true) : Rp K (fun _ => True) H v d := by
    have p : Pers Z H (fun _ => True) H := ⟨fun _ _ => trivial, fun _ _ _ h => h, fun _ _ h _ => h⟩
    cases d with
    | lst ds => obtain ⟨a, vs, rfl, ha, r⟩ := h; exact .lst trivial ha (r.pers p)
    | dK ds => obtain ⟨a, vs, rfl, ha, e, r⟩ := h; exact .dK trivial ha e (r.pers p)
    | dT ds => obtain ⟨a, vs, rfl, ha, e, r⟩ := h; exact .dT trivial ha e (r.pers p)
    | set xs => obtain ⟨a, T, m, rfl, ha, e1, e2, e3⟩ := h; exact .set trivial ha e1 e2 e3
    | non => exact Rp.pers p h
    | bl _ => exact Rp.pers p h
    | int _ => exact Rp.pers p h
    | str _ => exact Rp.pers p h
    | ty _ => exact Rp.pers p h
    | tup _ => exact Rp.pers p h
    | con _ => exact Rp.pers p h
    | scr _ => exact Rp.pers p h
theorem al_inD {neg : Bool} : AL K (two fun x y H Q => ∃ a o, y = .ref a ∧ DGet H a x o ∧ Q (.bl (o.isSome ^^ neg)) H) (gInD neg) := by
  intro Z H vs ds d n Q hz k e q
  unfold gInD at e
  split at e
  · rename_i k0 d0
    cases e1 : look d0 k0 with
    | none => rw [e1] at e; cases e
    | some o =>
      rw [e1] at e
      cases e
      obtain ⟨y, x, rfl, h2, h1⟩ := k.two
      obtain ⟨a, r, rfl, g, _, c⟩ := look_get h1 (look_key e1 h2) e1
      refine ⟨_, _, rfl, a, r, rfl, g, ?_⟩
      have e2 : r.isSome = o.isSome := by
        rcases c with ⟨rfl, rfl⟩ | ⟨v, d', rfl, rfl, _⟩ <;> rfl
      rw [e2]
      exact fin_imm (Z := Z) (.bl _) (by simp) q
  · cases e
def gInA (neg : Bool) : List D → Option (D × Nat) := fun ds => match ds with
  | [_, .dK _] => gInD neg ds
  | [_, .dT _] => gInD neg ds
  | _ => gIn neg ds
end
section
variable {X : Cx} {a b c e : Expr} {fa fb fc fe : Fe} {pos apos cpos : PySem.Pos}
theorem op_inT (hu : X.A.units + 65 < cLine) : OpR X (compareOp .In) (rInT X.K false) := by
  intro pins s σ H x y v u Q I rx ry h
  obtain ⟨d, ds, hd, he, sd, se, q⟩ := h
  obtain ⟨as, r1⟩ := Dp.reads I d x v hd rx
  obtain ⟨bs, r2⟩ := Dp.reads I (.tuple ds) y u he ry
  exact SeqAt.in_tuple_reads r2 r1 (SeqAt.canLay_of_shaped se) (SeqAt.canLay_of_shaped sd) (PyProof.Rows.room_in_shaped sd hu) ⟨.bl _, H, I, rfl, by rw [Bool.xor_false] at q; exact q⟩
theorem op_notInT (hu : X.A.units + 65 < cLine) : OpR X (compareOp .NotIn) (rInT X.K true) := by
  intro pins s σ H x y v u Q I rx ry h
  obtain ⟨d, ds, hd, he, sd, se, q⟩ := h
  obtain ⟨as, r1⟩ := Dp.reads I d x v hd rx
  obtain ⟨bs, r2⟩ := Dp.reads I (.tuple ds) y u he ry
  exact SeqAt.notIn_tuple_reads r2 r1 (SeqAt.canLay_of_shaped se) (SeqAt.canLay_of_shaped sd) (PyProof.Rows.room_in_shaped sd hu) ⟨.bl _, H, I, rfl, by rw [Bool.xor_true] at q; exact q⟩
def mIn (a b : Fe) : Fe := mOp (gInA false) (mA2 a b)
def mNotIn (a b : Fe) : Fe := mOp (gInA true) (mA2 a b)
theorem in_split (neg : Bool) (ds : List D) : gInA neg ds = gIn neg ds ∨ gInA neg ds = gInD neg ds := by
  unfold gInA
  split
  · exact .inr rfl
  · exact .inr rfl
  · exact .inl rfl
theorem ac_in (hu : X.A.units + 65 < cLine) (ha : AE X a fa) (hb : AE X b fb) : AC X .In a b (mIn fa fb) :=
  PC.mono (PC.or (pc_op ((op_inD hu).or (op_inT hu)) ha hb) (pc_din (Nat.lt_of_le_of_lt (Nat.add_le_add_left (by decide) _) hu) ha hb)) fun σ H Q q => by
    rcases op_split (in_split false) q with q | q
    · refine .inl (tOp_op (r := fun x y H Q => rInD X.K x y H Q ∨ rInT X.K false x y H Q) ?_ q)
      intro Z H vs ds d n Q hz k e q
      obtain ⟨x, y, rfl, h | h⟩ := al_in Z H vs ds d n Q hz k e q
      · refine ⟨x, y, rfl, .inl ?_⟩
        obtain ⟨d, ds, h1, h2, h3, h4, h5⟩ := h
        exact ⟨d, ds, h1, h2, h3, h4, by rw [Bool.xor_false] at h5; exact h5⟩
      · exact ⟨x, y, rfl, .inr h⟩
    · refine .inr (tOp_op (r := fun x y H Q => ∃ a o, y = .ref a ∧ DGet H a x o ∧ Q (.bl o.isSome) H) ?_ q)
      intro Z H vs ds d n Q hz k e q
      obtain ⟨x, y, rfl, a, o, h1, h2, h3⟩ := al_inD Z H vs ds d n Q hz k e q
      exact ⟨x, y, rfl, a, o, h1, h2, by rw [Bool.xor_false] at h3; exact h3⟩
theorem ac_notIn (hu : X.A.units + 65 < cLine) (ha : AE X a fa) (hb : AE X b fb) : AC X .NotIn a b (mNotIn fa fb) :=
  PC.mono (PC.or (pc_op ((op_notInD hu).or (op_notInT hu)) ha hb) (pc_dnotin (Nat.lt_of_le_of_lt (Nat.add_le_add_left (by decide) _) hu) ha hb)) fun σ H Q q => by
    rcases op_split (in_split true) q with q | q
    · refine .inl (tOp_op (r := fun x y H Q => rNotInD X.K x y H Q ∨ rInT X.K true x y H Q) ?_ q)
      intro Z H vs ds d n Q hz k e q
      obtain ⟨x, y, rfl, h | h⟩ := al_in Z H vs ds d n Q hz k e q
      · refine ⟨x, y, rfl, .inl ?_⟩
        obtain ⟨d, ds, h1, h2, h3, h4, h5⟩ := h
        exact ⟨d, ds, h1, h2, h3, h4, by rw [Bool.xor_true] at h5; exact h5⟩
      · exact ⟨x, y, rfl, .inr h⟩
    · refine .inr (tOp_op (r := fun x y H Q => ∃ a o, y = .ref a ∧ DGet H a x o ∧ Q (.bl (!o.isSome)) H) ?_ q)
      intro Z H vs ds d n Q hz k e q
      obtain ⟨x, y, rfl, a, o, h1, h2, h3⟩ := al_inD Z H vs ds d n Q hz k e q
      exact ⟨x, y, rfl, a, o, h1, h2, by rw [Bool.xor_true] at h3; exact h3⟩
/-- x[i], lists, tuples, texts and dicts -/
def mIxd (a b : Fe) : Fe := mOp gIxd (mA2 a b)
theorem ae_ixd (hu : X.A.units + 1 < cLine) (ha : AE X a fa) (hb : AE X b fb) (hs : PlainIx b := by exact fun _ _ => rfl) (hs2 : NoSl b := by exact fun _ _ => rfl) : AE X (.Subscript a b pos) (mIxd fa fb) :=
  PE.mono (PE.or (pe_ix ix_seq ha hb hs) (pe_dget hu ha hb hs2)) fun σ H Q q => by
    have sp : ∀ ds, gIxd ds = gIx ds ∨ gIxd ds = gDg ds := fun ds => by
      unfold gIxd
      split
      · exact .inr rfl
      · exact .inr rfl
      · exact .inl rfl
    rcases op_split sp q with q | q
    · exact .inl (tOp_op al_ix q)
    · exact .inr (tOp_op al_dg q)
end
end Zk
namespace Zk
open PySem PySem.Spec PyProof.Rows L2

section
variable {K : PySem.W.Frag} {Z Z' Zf Z0 : Addr → Prop} {H H' H0 : Hp} {σ : L2.St} {E E' : Ev} {R R' R0 : Rs}
/-- the thing of slot i is changed at its root a -/
theorem S.write (s : S K Z H σ E R) (t0 : Step Z0 H0 (ow R0) Z H (ow R)) {i : Nat} {a : Addr} {o' : HO} {d' : D} {n' : Nat} {rs' ts : List Addr} (hi : i < E.length) (hσ : σ[i]? = some (some (.ref a))) (ha : a ∈ R i)
    (new : Own K Zf (upd H a o') n' (.ref a) d' rs') (hz : ∀ b, Z b → Zf b) (hzn : ∀ b, Zf b → Z b ∨ b ∈ R i ∨ b ∈ ts) (sub : ∀ b ∈ rs', b ∈ R i ∨ b ∈ ts) (nd : rs'.Nodup)
    (tno : ∀ b ∈ ts, ¬ ow R b) (tth : ∀ b ∈ ts, H b ≠ none) (tof : ∀ b ∈ ts, ow R0 b ∨ H0 b = none) :
    S K Zf (upd H a o') σ (E.set i (some (d', n'))) (put R i rs') ∧ Step Z0 H0 (ow R0) Zf (upd H a o') (ow (put R i rs')) := by
  have oa : ow R a := ⟨i, ha⟩
  have p : Pers Z H Zf (upd H a o') := ⟨hz, fun b o z e => by
    have ne : b ≠ a := fun e2 => (s.owns oa).2 (by rw [← e2]; exact z)
    rw [upd_ne ne]; exact e, fun b o e n => by
    have ne : b ≠ a := fun e2 => n (by have := (s.owns oa).1; rw [← e2, e] at this; exact this)
    rw [upd_ne ne]; exact e⟩
  have no : ∀ b ∈ rs', ∀ j, j ≠ i → b ∉ R j := fun b m j hj mj => by
    rcases sub b m with h | h
    · exact hj (s.dj j i b mj h)
    · exact tno b h ⟨j, mj⟩
  refine ⟨⟨by simp [s.len], fun j d n e => ?_, fun j e => ?_, fun j => ?_, fun j k b h1 h2 => ?_, fun b z => ?_⟩, ⟨fun b z => hz b (t0.zz b z), fun b z => ?_, fun b o e n => ?_, fun b h => ?_, fun b h e => ?_⟩⟩
  · by_cases q : j = i
    · subst q
      rw [eg_set_same hi] at e
      cases e
      exact ⟨_, hσ, by rw [put_same]; exact new⟩
    · rw [eg_set_ne q] at e
      obtain ⟨v, e1, o1⟩ := s.slot j d n e
      refine ⟨v, e1, ?_⟩
      rw [put_ne q]
      refine o1.keep p fun b m => ⟨upd_ne fun e2 => q (s.dj j i b m (e2 ▸ ha)), fun z => ?_⟩
      rcases hzn b z with z | z | z
      · exact (o1.mut b m).2 z
      · exact q (s.dj j i b m z)
      · exact tno b z ⟨j, m⟩
  · by_cases q : j = i
    · subst q; rw [eg_set_same hi] at e; cases e
    · rw [eg_set_ne q] at e; rw [put_ne q]; exact s.emp j e
  · by_cases q : j = i
    · subst q; rw [put_same]; exact nd
    · rw [put_ne q]; exact s.nd j
  · by_cases q : j = i
    · subst q
      rw [put_same] at h1
      by_cases q2 : k = j
      · exact q2.symm
      · rw [put_ne q2] at h2; exact absurd h2 (no b h1 k q2)
    · rw [put_ne q] at h1
      by_cases q2 : k = i
      · subst q2; rw [put_same] at h2; exact absurd h1 (no b h2 j q)
      · rw [put_ne q2] at h2; exact s.dj j k b h1 h2
  · by_cases c : b = a
    · rw [c, upd_same]; simp
    · rw [upd_ne c]
      rcases hzn b z with z | z | z
      · exact s.zd b z
      · exact s.there ⟨i, z⟩
      · exact tth b z
  · rcases hzn b z with z | z | z
    · exact t0.zn b z
    · rcases t0.on b ⟨i, z⟩ with h | h
      · exact .inr (.inr h)
      · exact .inr (.inl h)
    · rcases tof b z with h | h
      · exact .inr (.inr h)
      · exact .inr (.inl h)
  · have c : b ≠ a := fun c => by
      subst c
      rcases t0.on b oa with h | h
      · exact n h
      · rw [e] at h; cases h
    rw [upd_ne c]
    exact t0.hh b o e n
  · rcases ow_put h with h | h
    · rcases sub b h with h | h
      · exact t0.on b ⟨i, h⟩
      · exact tof b h
    · exact t0.on b h
  · by_cases c : b = a
    · rw [c, upd_same] at e; cases e
    · rw [upd_ne c] at e; exact t0.dm b h e

theorem All3.append {α β γ : Type} {P : α → β → γ → Prop} : ∀ {as as' : List α} {bs bs' : List β} {cs cs' : List γ}, All3 P as bs cs → All3 P as' bs' cs' → All3 P (as ++ as') (bs ++ bs') (cs ++ cs')
  | _, _, _, _, _, _, .nil, r => r
  | _, _, _, _, _, _, .cons h t, r => .cons h (All3.append t r)
theorem All3.len {α β γ : Type} {P : α → β → γ → Prop} {as : List α} {bs : List β} {cs : List γ} (h : All3 P as bs cs) : as.length = bs.length ∧ cs.length = bs.length := by
  induction h with
  | nil => exact ⟨rfl, rfl⟩
  | cons _ _ ih => simp [ih]
theorem All3.set {α β γ : Type} {P : α → β → γ → Prop} {a : α} {b : β} {c : γ} (h : P a b c) : ∀ {as : List α} {bs : List β} {cs : List γ} (n : Nat), All3 P as bs cs → All3 P (as.set n a) (bs.set n b) (cs.set n c)
  | _, _, _, _, .nil => by simp; exact .nil
  | _, _, _, 0, .cons _ t => .cons h t
  | _, _, _, n + 1, .cons g t => .cons g (All3.set h n t)
theorem All3.erase {α β γ : Type} {P : α → β → γ → Prop} : ∀ {as : List α} {bs : List β} {cs : List γ} (n : Nat), All3 P as bs cs → All3 P (as.eraseIdx n) (bs.eraseIdx n) (cs.eraseIdx n)
  | _, _, _, _, .nil => by simp; exact .nil
  | _, _, _, 0, .cons _ t => t
  | _, _, _, n + 1, .cons g t => .cons g (All3.erase n t)
theorem All3.get {α β γ : Type} {P : α → β → γ → Prop} : ∀ {as : List α} {bs : List β} {cs : List γ}, All3 P as bs cs → ∀ {i : Nat} {b : β}, bs[i]? = some b → ∃ a c, as[i]? = some a ∧ cs[i]? = some c ∧ P a b c
  | _, _, _, .nil, i, b, e => by simp at e
  | _, _, _, .cons h t, 0, b, e => by simp at e; subst e; exact ⟨_, _, rfl, rfl, h⟩
  | _, _, _, .cons h t, i + 1, b, e => by
    obtain ⟨x, y, h1, h2, h3⟩ := All3.get t (i := i) (b := b) (by simpa using e)
    exact ⟨x, y, by simpa using h1, by simpa using h2, h3⟩
theorem All3.rev {α β γ : Type} {P : α → β → γ → Prop} : ∀ {as : List α} {bs : List β} {cs : List γ}, All3 P as bs cs → All3 P as.reverse bs.reverse cs.reverse
  | _, _, _, .nil => by simp; exact .nil
  | _, _, _, .cons h t => by simp only [List.reverse_cons]; exact All3.append (All3.rev t) (.cons h .nil)
theorem nodup_set_flat : ∀ {rss : List (List Addr)} {rs : List Addr} (n : Nat), rss.flatten.Nodup → rs.Nodup → (∀ a ∈ rs, a ∉ rss.flatten) → (rss.set n rs).flatten.Nodup
  | [], rs, n, _, _, _ => by simp
  | r :: rss, rs, 0, h, h2, h3 => by
    rw [List.flatten_cons, List.nodup_append] at h
    rw [List.set_cons_zero, List.flatten_cons, List.nodup_append]
    exact ⟨h2, h.2.1, fun a m b m2 e => h3 a m (by rw [List.flatten_cons, List.mem_append]; exact .inr (e ▸ m2))⟩
  | r :: rss, rs, n + 1, h, h2, h3 => by
    rw [List.flatten_cons, List.nodup_append] at h
    rw [List.set_cons_succ, List.flatten_cons, List.nodup_append]
    refine ⟨h.1, nodup_set_flat n h.2.1 h2 fun a m z => h3 a m (by rw [List.flatten_cons, List.mem_append]; exact .inr z), fun a m b m2 e => ?_⟩
    subst e
    rcases mem_set_flat n m2 with z | z
    · exact h.2.2 a m a z rfl
    · exact h3 a z (by rw [List.flatten_cons, List.mem_append]; exact .inl m)
where
  mem_set_flat : ∀ {rss : List (List Addr)} {rs : List Addr} {a : Addr} (n : Nat), a ∈ (rss.set n rs).flatten → a ∈ rss.flatten ∨ a ∈ rs
    | [], rs, a, n, h => by simp at h
    | r :: rss, rs, a, 0, h => by
      rw [List.set_cons_zero, List.flatten_cons, List.mem_append] at h
      rw [List.flatten_cons, List.mem_append]
      rcases h with h | h
      · exact .inr h
      · exact .inl (.inr h)
    | r :: rss, rs, a, n + 1, h => by
      rw [List.set_cons_succ, List.flatten_cons, List.mem_append] at h
      rw [List.flatten_cons, List.mem_append]
      rcases h with h | h
      · exact .inl (.inl h)
      · rcases mem_set_flat n h with h | h
        · exact .inl (.inr h)
        · exact .inr h
theorem flat_erase : ∀ {rss : List (List Addr)} (n : Nat), rss.flatten.Nodup → (rss.eraseIdx n).flatten.Nodup ∧ ∀ a ∈ (rss.eraseIdx n).flatten, a ∈ rss.flatten
  | [], n, h => by simp
  | r :: rss, 0, h => by
    rw [List.flatten_cons, List.nodup_append] at h
    exact ⟨h.2.1, fun a m => by rw [List.flatten_cons, List.mem_append]; exact .inr m⟩
  | r :: rss, n + 1, h => by
    rw [List.flatten_cons, List.nodup_append] at h
    obtain ⟨h1, h2⟩ := flat_erase n h.2.1
    rw [List.eraseIdx_cons_succ, List.flatten_cons]
    refine ⟨List.nodup_append.mpr ⟨h.1, h1, fun a m b m2 => h.2.2 a m b (h2 b m2)⟩, fun a m => ?_⟩
    rw [List.mem_append] at m
    rw [List.flatten_cons, List.mem_append]
    rcases m with m | m
    · exact .inl m
    · exact .inr (h2 a m)

/-- the depth of a list behind a thing came into it -/
def upl (n : Nat) (d dv : D) (nv : Nat) : Nat := if imm dv = true then n else if flat d = true then nv + 1 else if n = nv + 1 then n else 1
/-- all within a list, and a thing that comes into it, at one depth -/
theorem level {n : Nat} {vs : List V} {ds : List D} {rss : List (List Addr)} {v : V} {dv : D} {nv : Nat} {rv : List Addr} {d : D} (hd : flat d = true → imms ds = true) (h : All3 (Own K Z H n) vs ds rss) (hv : Own K Z H nv v dv rv) :
    ∃ m Zf rss' rv', upl (n + 1) d dv nv = m + 1 ∧ All3 (Own K Zf H m) vs ds rss' ∧ Own K Zf H m v dv rv' ∧ (∀ b, Z b → Zf b) ∧ (∀ b, Zf b → Z b ∨ b ∈ rss.flatten ∨ b ∈ rv) ∧
      ((rss' = rss ∧ rv' = rv ∧ Zf = Z) ∨ (rss'.flatten = [] ∧ rv' = [] ∧ Zf = fun b => Z b ∨ b ∈ rss.flatten ∨ b ∈ rv) ∨ (rss'.flatten = [] ∧ rv' = rv ∧ Zf = Z)) := by
  unfold upl
  split
  · rename_i i
    obtain ⟨rfl, r⟩ := hv.imm i
    exact ⟨n, Z, rss, [], rfl, h, .ofImm r i, fun _ h => h, fun _ h => .inl h, .inl ⟨rfl, rfl, rfl⟩⟩
  · split
    · rename_i f
      obtain ⟨r, e⟩ := h.immRps (hd f)
      exact ⟨nv, Z, _, rv, rfl, All3.ofRpsI r (hd f), hv, fun _ h => h, fun _ h => .inl h, .inr (.inr ⟨flat_nils _, rfl, rfl⟩)⟩
    · split
      · rename_i e
        have e : n = nv := by omega
        subst e
        exact ⟨n, Z, rss, rv, rfl, h, hv, fun _ h => h, fun _ h => .inl h, .inl ⟨rfl, rfl, rfl⟩⟩
      · have p : Pers Z H (fun b => Z b ∨ b ∈ rss.flatten ∨ b ∈ rv) H := ⟨fun _ h => .inl h, fun _ _ _ h => h, fun _ _ h _ => h⟩
        have r : Rps K (fun b => Z b ∨ b ∈ rss.flatten ∨ b ∈ rv) H vs ds :=
          All3.rps (R := fun _ _ => True) (P := fun v d rs => Rp K (fun b => Z b ∨ b ∈ rss.flatten ∨ b ∈ rv) H v d) (fun _ _ _ h => h) (h.imp fun v d rs m o => Own.freeze p (fun b hb => ⟨rfl, .inr (.inl (mem_flatten_of m hb))⟩) o)
        exact ⟨0, _, _, [], rfl, All3.ofRps0 r, ⟨rfl, hv.freeze p fun b hb => ⟨rfl, .inr (.inr hb)⟩⟩, fun _ h => .inl h, fun _ h => h, .inr (.inl ⟨flat_nils _, rfl, rfl⟩)⟩
theorem Own.lstE {n : Nat} {v : V} {ds : List D} {rs : List Addr} (h : Own K Z H (n + 1) v (.lst ds) rs) : ∃ a vs rss, v = .ref a ∧ H a = some (.lst vs) ∧ ¬ Z a ∧ All3 (Own K Z H n) vs ds rss ∧ rs = a :: rss.flatten := h

/-- the thing v (dv, nv, rv) comes into the owned list of slot i by the editing of the lists f -/
theorem S.edit (s : S K Z H σ E R) (t0 : Step Z0 H0 (ow R0) Z H (ow R)) {i : Nat} {ds : List D} {n : Nat} (e : eg E i = some (.lst ds, n + 1)) {v : V} {dv : D} {nv : Nat} {rv : List Addr} (hv : Own K Z H nv v dv rv) (fr : Fr R0 H0 R rv)
    (fV : List V → List V) (fD : List D → List D) (fR : List (List Addr) → List Addr → List (List Addr))
    (hf : ∀ (Z : Addr → Prop) (H : Hp) (m : Nat) (vs : List V) (rss : List (List Addr)) (rv : List Addr), All3 (Own K Z H m) vs ds rss → Own K Z H m v dv rv → All3 (Own K Z H m) (fV vs) (fD ds) (fR rss rv))
    (hr : ∀ (rss : List (List Addr)) (rv : List Addr), rss.flatten.Nodup → rv.Nodup → (∀ a ∈ rv, a ∉ rss.flatten) → (fR rss rv).flatten.Nodup ∧ ∀ a ∈ (fR rss rv).flatten, a ∈ rss.flatten ∨ a ∈ rv) :
    ∃ a vs, σ[i]? = some (some (.ref a)) ∧ H a = some (.lst vs) ∧ vs.length = ds.length ∧ ∃ Zf rs', S K Zf (upd H a (.lst (fV vs))) σ (E.set i (some (.lst (fD ds), upl (n + 1) (.lst ds) dv nv))) (put R i rs') ∧
      Step Z0 H0 (ow R0) Zf (upd H a (.lst (fV vs))) (ow (put R i rs')) := by
  obtain ⟨w, e1, o1⟩ := s.slot i _ _ e
  obtain ⟨a, vs, rss, rfl, ha, nz, al, er⟩ := o1.lstE
  refine ⟨a, vs, e1, ha, al.len.1, ?_⟩
  obtain ⟨m, Zf, rss', rv', em, al', hv', zz, zn, c⟩ := level (d := .lst ds) (fun f => by simpa [flat] using f) al hv
  have nd := s.nd i
  rw [er] at nd
  obtain ⟨nd1, nd2⟩ := List.nodup_cons.mp nd
  have inR : ∀ b ∈ rss.flatten, b ∈ R i := fun b m => by rw [er]; exact List.mem_cons_of_mem _ m
  have sub' : ∀ b ∈ rss'.flatten, b ∈ rss.flatten := fun b m => by
    rcases c with ⟨rfl, _, _⟩ | ⟨h, _, _⟩ | ⟨h, _, _⟩
    · exact m
    · rw [h] at m; simp at m
    · rw [h] at m; simp at m
  have nd' : rss'.flatten.Nodup := by
    rcases c with ⟨rfl, _, _⟩ | ⟨h, _, _⟩ | ⟨h, _, _⟩
    · exact nd2
    · rw [h]; exact List.nodup_nil
    · rw [h]; exact List.nodup_nil
  have subv : ∀ b ∈ rv', b ∈ rv := fun b m => by
    rcases c with ⟨_, rfl, _⟩ | ⟨_, rfl, _⟩ | ⟨_, rfl, _⟩
    · exact m
    · simp at m
    · exact m
  have ndv : rv'.Nodup := by
    rcases c with ⟨_, rfl, _⟩ | ⟨_, rfl, _⟩ | ⟨_, rfl, _⟩
    · exact fr.nd
    · exact List.nodup_nil
    · exact fr.nd
  have vno : ∀ b ∈ rv, b ∉ R i := fun b m z => fr.no b m ⟨i, z⟩
  obtain ⟨h1, h2⟩ := hr rss' rv' nd' ndv fun b m z => vno b (subv b m) (inR b (sub' b z))
  have aRi : a ∈ R i := by rw [er]; exact List.mem_cons_self
  have ane : ∀ b ∈ (fR rss' rv').flatten, b ≠ a := fun b m e => by
    subst e
    rcases h2 b m with z | z
    · exact nd1 (sub' b z)
    · exact vno b (subv b z) aRi
  have nzf : ¬ Zf a := fun z => by
    rcases zn a z with z | z | z
    · exact nz z
    · exact nd1 z
    · exact vno a z aRi
  have p : Pers Zf H Zf (upd H a (.lst (fV vs))) := ⟨fun _ h => h, fun b o z e => by
    have ne : b ≠ a := fun e2 => nzf (by rw [← e2]; exact z)
    rw [upd_ne ne]; exact e, fun b o e n => by
    have ne : b ≠ a := fun e2 => n (by rw [e2, ha] at e; cases e; trivial)
    rw [upd_ne ne]; exact e⟩
  have al2 := hf Zf H m vs rss' rv' al' hv'
  have new : Own K Zf (upd H a (.lst (fV vs))) (m + 1) (.ref a) (.lst (fD ds)) (a :: (fR rss' rv').flatten) :=
    ⟨a, _, _, rfl, upd_same, nzf, al2.imp fun v d rs mm o => o.keep p fun b hb => ⟨upd_ne (ane b (mem_flatten_of mm hb)), (o.mut b hb).2⟩, rfl⟩
  have q := s.write t0 (ts := rv) (eg_lt e) e1 aRi new zz (fun b z => ?_) (fun b m => ?_) (List.nodup_cons.mpr ⟨fun z => ane a z rfl, h1⟩) fr.no hv.there fr.of
  · rw [em]; exact ⟨Zf, _, q⟩
  · rcases zn b z with z | z | z
    · exact .inl z
    · exact .inr (.inl (inR b z))
    · exact .inr (.inr z)
  · rcases List.mem_cons.mp m with rfl | m
    · exact .inl aRi
    · rcases h2 b m with z | z
      · exact .inl (inR b (sub' b z))
      · exact .inr (subv b z)

/-- what slot i holds, if it is an owned list -/
def lstAt (E : Ev) (i : Nat) : Option (List D × Nat) := match eg E i with
  | some (.lst ds, n + 1) => some (ds, n + 1)
  | _ => none
theorem lstAt_eg {i : Nat} {ds : List D} {n : Nat} (h : lstAt E i = some (ds, n)) : ∃ m, n = m + 1 ∧ eg E i = some (.lst ds, m + 1) := by
  unfold lstAt at h
  split at h
  · rename_i q
    cases h
    exact ⟨_, rfl, q⟩
  · cases h
/-- xs.append(e) -/
def mApp (i : Nat) (fe : Fe) : Fe := fun E => (lstAt E i).bind fun _ => (fe E).bind fun p => (tk p.2 p.1).bind fun q => (lstAt q.2.2 i).bind fun l =>
  if l.1.length < sizeLine then some (.val .non 9, q.2.2.set i (some (.lst (l.1 ++ [q.1]), upl l.2 (.lst l.1) q.1 q.2.1))) else none
theorem app_of {i : Nat} {fe : Fe} {H : Hp} {Q : VK} (q : eOf K (mApp i fe) σ H Q) : ∃ x, σ[i]? = some (some x) ∧ tyV K "list" x H ∧ eOf K fe σ H fun y H1 => rAppend x [y] H1 Q := by
  obtain ⟨Z, E, R, s, o, E', e, q⟩ := q
  unfold mApp at e
  cases e0 : lstAt E i with
  | none => rw [e0] at e; cases e
  | some l0 =>
    rw [e0] at e
    simp only [Option.bind_some] at e
    cases e1 : fe E with
    | none => rw [e1] at e; cases e
    | some p =>
      obtain ⟨o1, E1⟩ := p
      rw [e1] at e
      simp only [Option.bind_some] at e
      cases e2 : tk E1 o1 with
      | none => rw [e2] at e; cases e
      | some p2 =>
        obtain ⟨dv, nv, E2⟩ := p2
        rw [e2] at e
        simp only [Option.bind_some] at e
        cases e3 : lstAt E2 i with
        | none => rw [e3] at e; cases e
        | some l =>
          obtain ⟨ds, n⟩ := l
          rw [e3] at e
          simp only [Option.bind_some] at e
          split at e
          · rename_i hl
            cases e
            obtain ⟨m0, _, g0⟩ := lstAt_eg (n := l0.2) (ds := l0.1) e0
            obtain ⟨m, rfl, g⟩ := lstAt_eg e3
            obtain ⟨w, ew, ow1⟩ := s.slot i _ _ g0
            obtain ⟨a0, vs0, rss0, rfl, ha0, _⟩ := ow1.lstE
            refine ⟨_, ew, .inl ⟨rfl, _, .inl (.inl ha0)⟩, Z, E, R, s, o1, E1, e1, fun v Z1 H1 R1 rs s1 t1 ov f1 => ?_⟩
            obtain ⟨Z2, R2, s2, t2, o2, n2, sub2⟩ := s1.take ov f1.no e2
            obtain ⟨a, vs, e4, ha, hlen, Zf, rs', s3, t3⟩ := s2.edit (t1.trans t2) g o2 ⟨f1.nd, n2, f1.of⟩ (fun vs => vs ++ [v]) (fun ds => ds ++ [dv]) (fun rss rv => rss ++ [rv]) (fun Z H m vs rss rv al ho => al.append (.cons ho .nil)) (fun rss rv h1 h2 h3 => by
              rw [List.flatten_append]
              simp only [List.flatten_cons, List.flatten_nil, List.append_nil]
              exact ⟨List.nodup_append.mpr ⟨h1, h2, fun a m b m2 e => h3 b m2 (e ▸ m)⟩, fun a m => List.mem_append.mp m⟩)
            rw [ew] at e4
            cases e4
            refine ⟨_, vs, v, rfl, rfl, ha, by rw [hlen]; exact hl, ?_⟩
            exact q _ Zf _ _ [] s3 t3 (Own.ofImm .non (by simp)) .nil
          · cases e
/-- the k-th thing is taken out of the owned list of slot i -/
theorem S.out (s : S K Z H σ E R) (t0 : Step Z0 H0 (ow R0) Z H (ow R)) {i : Nat} {ds : List D} {n : Nat} (e : eg E i = some (.lst ds, n + 1)) {k : Nat} {d : D} (hk : ds[k]? = some d) :
    ∃ a vs v, σ[i]? = some (some (.ref a)) ∧ H a = some (.lst vs) ∧ vs.length = ds.length ∧ vs[k]? = some v ∧ ∃ rv rs', S K Z (upd H a (.lst (vs.eraseIdx k))) σ (E.set i (some (.lst (ds.eraseIdx k), n + 1))) (put R i rs') ∧
      Step Z0 H0 (ow R0) Z (upd H a (.lst (vs.eraseIdx k))) (ow (put R i rs')) ∧ Own K Z (upd H a (.lst (vs.eraseIdx k))) n v d rv ∧ Fr R0 H0 (put R i rs') rv := by
  obtain ⟨w, e1, o1⟩ := s.slot i _ _ e
  obtain ⟨a, vs, rss, rfl, ha, nz, al, er⟩ := o1.lstE
  obtain ⟨v, rv, h1, h2, ov⟩ := al.get hk
  refine ⟨a, vs, v, e1, ha, al.len.1, h1, rv, a :: (rss.eraseIdx k).flatten, ?_⟩
  have nd := s.nd i
  rw [er] at nd
  obtain ⟨nd1, nd2⟩ := List.nodup_cons.mp nd
  obtain ⟨f1, f2⟩ := flat_erase k nd2
  have aRi : a ∈ R i := by rw [er]; exact List.mem_cons_self
  have mem : rv ∈ rss := List.mem_of_getElem? h2
  have p : Pers Z H Z (upd H a (.lst (vs.eraseIdx k))) := ⟨fun _ h => h, fun b o z e => by
    have ne : b ≠ a := fun e2 => nz (by rw [← e2]; exact z)
    rw [upd_ne ne]; exact e, fun b o e n => by
    have ne : b ≠ a := fun e2 => n (by rw [e2, ha] at e; cases e; trivial)
    rw [upd_ne ne]; exact e⟩
  have ne : ∀ b ∈ rss.flatten, b ≠ a := fun b m e => nd1 (e ▸ m)
  have new : Own K Z (upd H a (.lst (vs.eraseIdx k))) (n + 1) (.ref a) (.lst (ds.eraseIdx k)) (a :: (rss.eraseIdx k).flatten) :=
    ⟨a, _, _, rfl, upd_same, nz, (al.erase k).imp fun v d rs mm o => o.keep p fun b hb => ⟨upd_ne (ne b (f2 b (mem_flatten_of mm hb))), (o.mut b hb).2⟩, rfl⟩
  have rvR : ∀ b ∈ rv, b ∈ R i := fun b m => by rw [er]; exact List.mem_cons_of_mem _ (mem_flatten_of mem m)
  have q := s.write t0 (ts := []) (eg_lt e) e1 aRi new (fun _ h => h) (fun b z => .inl z) (fun b m => .inl (by
      rw [er]
      rcases List.mem_cons.mp m with rfl | m
      · exact List.mem_cons_self
      · exact List.mem_cons_of_mem _ (f2 b m))) (List.nodup_cons.mpr ⟨fun z => nd1 (f2 a z), f1⟩) (fun b m => by simp at m) (fun b m => by simp at m) fun b m => by simp at m
  refine ⟨q.1, q.2, ov.keep p fun b hb => ⟨upd_ne (ne b (mem_flatten_of mem hb)), (ov.mut b hb).2⟩, ⟨?_, fun b m ⟨j, hj⟩ => ?_, fun b m => t0.on b ⟨i, rvR b m⟩⟩⟩
  · exact nd2.sublist (List.sublist_flatten_of_mem mem)
  · by_cases c : j = i
    · subst c
      rw [put_same] at hj
      rcases List.mem_cons.mp hj with rfl | hj
      · exact ne _ (mem_flatten_of mem m) rfl
      · exact (apart k nd2 h2 b m) hj
    · rw [put_ne c] at hj
      exact c (s.dj j i b hj (rvR b m))
where
  apart : ∀ {rss : List (List Addr)} {rv : List Addr} (k : Nat), rss.flatten.Nodup → rss[k]? = some rv → ∀ a ∈ rv, a ∉ (rss.eraseIdx k).flatten
    | [], _, k, _, h => by simp at h
    | r :: rss, rv, 0, nd, h => by
      simp at h
      subst h
      rw [List.flatten_cons, List.nodup_append] at nd
      intro a m z
      exact nd.2.2 a m a z rfl
    | r :: rss, rv, k + 1, nd, h => by
      rw [List.flatten_cons, List.nodup_append] at nd
      intro a m z
      rw [List.eraseIdx_cons_succ, List.flatten_cons, List.mem_append] at z
      have h' : rss[k]? = some rv := by simpa using h
      rcases z with z | z
      · exact nd.2.2 a z a (mem_flatten_of (List.mem_of_getElem? h') m) rfl
      · exact apart k nd.2.1 h' a m z
/-- xs.pop() -/
def mPop (i : Nat) : Fe := fun E => (lstAt E i).bind fun l => (l.1[l.1.length - 1]?).map fun d => (.val d (l.2 - 1), E.set i (some (.lst l.1.dropLast, l.2)))
theorem pop_of {i : Nat} {H : Hp} {Q : VK} (q : eOf K (mPop i) σ H Q) : ∃ x, σ[i]? = some (some x) ∧ tyV K "list" x H ∧ rPop x [] H Q := by
  obtain ⟨Z, E, R, s, o, E', e, q⟩ := q
  unfold mPop at e
  cases e0 : lstAt E i with
  | none => rw [e0] at e; cases e
  | some l =>
    obtain ⟨ds, n⟩ := l
    rw [e0] at e
    simp only [Option.bind_some] at e
    cases e1 : ds[ds.length - 1]? with
    | none => rw [e1] at e; cases e
    | some d =>
      rw [e1] at e
      cases e
      obtain ⟨m, rfl, g⟩ := lstAt_eg e0
      obtain ⟨a, vs, v, h1, h2, h3, h4, rv, rs', s', t', o', f'⟩ := s.out .refl g e1
      rw [← h3] at h4
      refine ⟨_, h1, .inl ⟨rfl, _, .inl (.inl h2)⟩, a, vs, v, rfl, rfl, h2, h4, ?_⟩
      rw [← h3, List.eraseIdx_length_sub_one] at s' t' o'
      rw [h3, List.eraseIdx_length_sub_one] at s'
      exact q v Z _ _ rv s' t' o' f'
/-- xs.reverse() -/
def mRev (i : Nat) : Fe := fun E => (lstAt E i).map fun l => (.val .non 9, E.set i (some (.lst l.1.reverse, l.2)))
theorem rev_of {i : Nat} {H : Hp} {Q : VK} (q : eOf K (mRev i) σ H Q) : ∃ x, σ[i]? = some (some x) ∧ tyV K "list" x H ∧ rReverse x [] H Q := by
  obtain ⟨Z, E, R, s, o, E', e, q⟩ := q
  unfold mRev at e
  cases e0 : lstAt E i with
  | none => rw [e0] at e; cases e
  | some l =>
    obtain ⟨ds, n⟩ := l
    rw [e0] at e
    cases e
    obtain ⟨m, rfl, g⟩ := lstAt_eg e0
    obtain ⟨a, vs, h1, h2, h3, Zf, rs', s', t'⟩ := s.edit .refl g (v := .non) (dv := .non) (nv := 0) (rv := []) ⟨rfl, .non⟩ .nil (fun vs => vs.reverse) (fun ds => ds.reverse) (fun rss _ => rss.reverse) (fun Z H m vs rss rv al _ => al.rev) (fun rss rv h _ _ => by
      refine ⟨?_, fun a m => .inl ?_⟩
      · exact (List.reverse_perm rss).flatten.nodup_iff.mpr h
      · exact (List.reverse_perm rss).flatten.mem_iff.mp m)
    refine ⟨_, h1, .inl ⟨rfl, _, .inl (.inl h2)⟩, a, vs, rfl, rfl, h2, ?_⟩
    have e1 : upl (m + 1) (.lst ds) .non 0 = m + 1 := by simp [upl]
    rw [e1] at s'
    exact q _ Zf _ _ [] s' t' (Own.ofImm .non (by simp)) .nil
end
section
variable {X : Cx} {e : Expr} {fe : Fe} {pos apos cpos : PySem.Pos} {i : Nat} {x : Str}
theorem ae_app (i : Nat) {x : Str} (he : AE X e fe) (hN : X.N[i]? = some x := by rfl) (hv : Vis X.env.scope x := by first | exact Or.inl rfl | exact Or.inr (Or.inl rfl) | exact Or.inr (Or.inr rfl)) (hd : (x == ("__debug__" : Str)) = false := by decide)
    (hcd : (x == ("__classdict__" : Str)) = false := by decide)
    (hbase : attributeBase (.Name x pos) "append" X.env (eval (.Name x pos) X.env) = eval (.Name x pos) X.env := by rfl)
    (hfew : ((backTo cpos (starEach [e] X.env)).all (fun x => !x.1) && (backToKw cpos (keywordEach [] X.env)).all (fun x => x.1.isSome)
      && decide (([e] : List Expr).length + ([] : List Keyword).length + (if ([] : List Keyword).isEmpty then 0 else 1) < 30)) = true := by rfl)
    (hline : (apos.endLine == cpos.line) = true := by rfl) (hs : starEach [e] X.env = (false, eval e X.env) :: starEach [] X.env := by rfl) :
    AE X (.Call (.Attribute (.Name x pos) "append" apos) [e] [] cpos) (mApp i fe) :=
  PE.mono (pe_bm PySem.F.plainAttrs_list PySem.F.slot_list_append PySem.F.type_list_append mt_append (pe_var hN hv hd hcd) (pa_cons he pa_nil hs) hbase hfew hline hs rfl) fun σ H Q q => by
    obtain ⟨y, e1, ty, q⟩ := app_of q
    exact ⟨y, e1, ty, eOf_imp (fun z H1 q => q) q⟩
theorem ae_pop (i : Nat) {x : Str} (hN : X.N[i]? = some x := by rfl) (hv : Vis X.env.scope x := by first | exact Or.inl rfl | exact Or.inr (Or.inl rfl) | exact Or.inr (Or.inr rfl)) (hd : (x == ("__debug__" : Str)) = false := by decide)
    (hcd : (x == ("__classdict__" : Str)) = false := by decide)
    (hbase : attributeBase (.Name x pos) "pop" X.env (eval (.Name x pos) X.env) = eval (.Name x pos) X.env := by rfl) (hline : (apos.endLine == cpos.line) = true := by rfl) :
    AE X (.Call (.Attribute (.Name x pos) "pop" apos) [] [] cpos) (mPop i) :=
  PE.mono (pe_bm0 PySem.F.plainAttrs_list PySem.F.slot_list_pop PySem.F.type_list_pop mt_pop (pe_var hN hv hd hcd) hbase hline) fun σ H Q q => pop_of q
theorem ae_rev (i : Nat) {x : Str} (hN : X.N[i]? = some x := by rfl) (hv : Vis X.env.scope x := by first | exact Or.inl rfl | exact Or.inr (Or.inl rfl) | exact Or.inr (Or.inr rfl)) (hd : (x == ("__debug__" : Str)) = false := by decide)
    (hcd : (x == ("__classdict__" : Str)) = false := by decide)
    (hbase : attributeBase (.Name x pos) "reverse" X.env (eval (.Name x pos) X.env) = eval (.Name x pos) X.env := by rfl) (hline : (apos.endLine == cpos.line) = true := by rfl) :
    AE X (.Call (.Attribute (.Name x pos) "reverse" apos) [] [] cpos) (mRev i) :=
  PE.mono (pe_bm0 PySem.F.plainAttrs_list PySem.F.slot_list_reverse PySem.F.type_list_reverse mt_reverse (pe_var hN hv hd hcd) hbase hline) fun σ H Q q => rev_of q
end
end Zk
namespace Zk
open PySem PySem.Spec PyProof.Rows L2

section
variable {K : PySem.W.Frag} {Z Z' Zf Z0 : Addr → Prop} {H H' H0 : Hp} {σ : L2.St} {E E' : Ev} {R R' R0 : Rs}
/-- name = e -/
def mSet (i : Nat) (f : Fe) : Fs := fun E => (f E).bind fun p => (tk p.2 p.1).bind fun q => if i < q.2.2.length then some (.nx, q.2.2.set i (some (q.1, q.2.1))) else none
theorem set_of {i : Nat} {f : Fe} {D : Ends} (q : sOf K [i] (mSet i f) D σ H) : eOf K f σ H fun v H1 => D.nx (σ.set i (some v)) H1 := by
  obtain ⟨Z, E, R, s, fl, E', e, q⟩ := q
  unfold mSet at e
  cases e1 : f E with
  | none => rw [e1] at e; cases e
  | some p =>
    obtain ⟨o, E1⟩ := p
    rw [e1] at e
    simp only [Option.bind_some] at e
    cases e2 : tk E1 o with
    | none => rw [e2] at e; cases e
    | some p2 =>
      obtain ⟨d, n, E2⟩ := p2
      rw [e2] at e
      simp only [Option.bind_some] at e
      split at e
      · rename_i hi
        cases e
        refine ⟨Z, E, R, s, o, E1, e1, fun v Z1 H1 R1 rs s1 t1 ov f1 => ?_⟩
        obtain ⟨Z2, R2, s2, t2, o2, n2, sub2⟩ := s1.take ov f1.no e2
        refine q _ Z2 H1 _ (s2.setSlot hi o2 f1.nd n2) ((t1.trans t2).fin (fun _ h => h) (fun a z => .inl z) (.refl _) fun a z => ?_) fun j hj => ?_
        · rcases ow_put z with z | z
          · rcases f1.of a z with z | z
            · exact .inr (.inl z)
            · exact .inr (.inr z)
          · exact .inl z
        · rw [List.getElem?_set_ne (fun c => hj (by simp [c]))]
      · cases e
/-- return e -/
def mRet (f : Fe) : Fs := fun E => (f E).bind fun p => (mv p.2 p.1).map fun q => (.rt q.1 q.2.1, q.2.2)
theorem ret_of {w : List Nat} {f : Fe} {D : Ends} (q : sOf K w (mRet f) D σ H) : eOf K f σ H D.rt := by
  obtain ⟨Z, E, R, s, fl, E', e, q⟩ := q
  unfold mRet at e
  cases e1 : f E with
  | none => rw [e1] at e; cases e
  | some p =>
    obtain ⟨o, E1⟩ := p
    rw [e1] at e
    simp only [Option.bind_some] at e
    cases e2 : mv E1 o with
    | none => rw [e2] at e; cases e
    | some p2 =>
      obtain ⟨d, n, E2⟩ := p2
      rw [e2] at e
      cases e
      refine ⟨Z, E, R, s, o, E1, e1, fun v Z1 H1 R1 rs s1 t1 ov f1 => ?_⟩
      obtain ⟨R2, rs2, s2, t2, o2, nd2, n2, in2, sub2⟩ := s1.move ov f1.nd f1.no e2
      refine q σ Z1 H1 R2 s2 (t1.trans t2) (fun _ _ => rfl) v rs2 o2 ⟨nd2, n2, fun a m => ?_⟩
      rcases in2 a m with m | m
      · exact f1.of a m
      · exact t1.on a m
/-- an expression whose value is dropped -/
def mEx (f : Fe) : Fs := fun E => (f E).map fun p => (.nx, p.2)
theorem ex_of {w : List Nat} {f : Fe} {D : Ends} (q : sOf K w (mEx f) D σ H) : eOf K f σ H fun _ H1 => D.nx σ H1 := by
  obtain ⟨Z, E, R, s, fl, E', e, q⟩ := q
  unfold mEx at e
  cases e1 : f E with
  | none => rw [e1] at e; cases e
  | some p =>
    rw [e1] at e
    cases e
    exact ⟨Z, E, R, s, p.1, p.2, e1, fun v Z1 H1 R1 rs s1 t1 ov f1 => q σ Z1 H1 R1 s1 t1 fun _ _ => rfl⟩
def mSeq (a b : Fs) : Fs := fun E => (a E).bind fun p => match p.1 with
  | .nx => b p.2
  | fl => some (fl, p.2)
def mNx : Fs := fun E => some (.nx, E)
def mBk : Fs := fun E => some (.bk, E)
def mCt : Fs := fun E => some (.ct, E)
/-- behind a first part -/
theorem seq_of {w w1 w2 : List Nat} {a b : Fs} {D : Ends} (h1 : ∀ i ∈ w1, i ∈ w) (h2 : ∀ i ∈ w2, i ∈ w) (q : sOf K w (mSeq a b) D σ H) : sOf K w1 a { D with nx := fun σ' H' => sOf K w2 b D σ' H' } σ H := by
  obtain ⟨Z, E, R, s, fl, E', e, q⟩ := q
  unfold mSeq at e
  cases e1 : a E with
  | none => rw [e1] at e; cases e
  | some p =>
    obtain ⟨f1, E1⟩ := p
    rw [e1] at e
    simp only [Option.bind_some] at e
    refine ⟨Z, E, R, s, f1, E1, e1, fun σ' Z' H' R' s' t' k => ?_⟩
    cases f1 with
    | nx =>
      refine ⟨Z', E1, R', s', fl, E', e, fun σ2 Z2 H2 R2 s2 t2 k2 => ?_⟩
      have := q σ2 Z2 H2 R2 s2 (t'.trans t2) fun i hi => (k2 i fun m => hi (h2 i m)).trans (k i fun m => hi (h1 i m))
      cases fl with
      | rt d n => exact fun v rs ov fr => this v rs ov (fr.trans t'.on t'.dm)
      | nx => exact this
      | bk => exact this
      | ct => exact this
    | bk => cases e; exact q σ' Z' H' R' s' t' fun i hi => k i fun m => hi (h1 i m)
    | ct => cases e; exact q σ' Z' H' R' s' t' fun i hi => k i fun m => hi (h1 i m)
    | rt d n => cases e; exact q σ' Z' H' R' s' t' fun i hi => k i fun m => hi (h1 i m)
def mIfS (c : Ft) (a b : Fs) : Fs := fun E => (c E).bind fun p => if p.1 = true then a p.2 else b p.2
theorem if_of {w w1 w2 : List Nat} {c : Ft} {a b : Fs} {D : Ends} (h1 : ∀ i ∈ w1, i ∈ w) (h2 : ∀ i ∈ w2, i ∈ w) (q : sOf K w (mIfS c a b) D σ H) : cOf K c σ H fun k H1 => if k = true then sOf K w1 a D σ H1 else sOf K w2 b D σ H1 := by
  obtain ⟨Z, E, R, s, fl, E', e, q⟩ := q
  unfold mIfS at e
  cases e1 : c E with
  | none => rw [e1] at e; cases e
  | some p =>
    obtain ⟨k, E1⟩ := p
    rw [e1] at e
    simp only [Option.bind_some] at e
    refine ⟨Z, E, R, s, k, E1, e1, fun Z' H' R' s' t' => ?_⟩
    have go : ∀ (f : Fs) (w3 : List Nat), (∀ i ∈ w3, i ∈ w) → f E1 = some (fl, E') → sOf K w3 f D σ H' := fun f w3 h3 e => by
      refine ⟨Z', E1, R', s', fl, E', e, fun σ2 Z2 H2 R2 s2 t2 k2 => ?_⟩
      have := q σ2 Z2 H2 R2 s2 (t'.trans t2) fun i hi => k2 i fun m => hi (h3 i m)
      cases fl with
      | rt d n => exact fun v rs ov fr => this v rs ov (fr.trans t'.on t'.dm)
      | nx => exact this
      | bk => exact this
      | ct => exact this
    cases k with
    | true => rw [if_pos rfl] at e; exact iteT (go a w1 h1 e)
    | false => rw [if_neg Bool.false_ne_true] at e; exact iteF (go b w2 h2 e)
def whileF (c : Ft) (body : Fs) : Nat → Fs
  | 0 => fun _ => none
  | n + 1 => fun E => (c E).bind fun p => if p.1 = true then (body p.2).bind fun q => (match q.1 with
      | .nx => whileF c body n q.2
      | .ct => whileF c body n q.2
      | .bk => some (.nx, q.2)
      | .rt d k => some (.rt d k, q.2)) else some (.nx, p.2)
theorem whileF_mono {c : Ft} {body : Fs} : ∀ {n m : Nat} {E : Ev} {r : Fl × Ev}, n ≤ m → whileF c body n E = some r → whileF c body m E = some r
  | 0, _, _, _, _, h => by cases h
  | n + 1, 0, _, _, h, _ => by omega
  | n + 1, m + 1, E, r, h, e => by
    simp only [whileF] at e ⊢
    cases e1 : c E with
    | none => rw [e1] at e; cases e
    | some p =>
      rw [e1] at e
      simp only [Option.bind_some] at e ⊢
      split
      · rename_i hp
        rw [if_pos hp] at e
        cases e2 : body p.2 with
        | none => rw [e2] at e; cases e
        | some q =>
          obtain ⟨fl, E2⟩ := q
          rw [e2] at e
          simp only [Option.bind_some] at e ⊢
          cases fl with
          | nx => exact whileF_mono (by omega) e
          | ct => exact whileF_mono (by omega) e
          | bk => exact e
          | rt d k => exact e
      · rename_i hp
        rw [if_neg hp] at e
        exact e
open Classical in
noncomputable def mWhile (c : Ft) (body : Fs) : Fs := fun E => if h : ∃ n r, whileF c body n E = some r then whileF c body h.choose E else none
theorem mWhile_some {c : Ft} {body : Fs} {E : Ev} {r : Fl × Ev} : mWhile c body E = some r ↔ ∃ n, whileF c body n E = some r := by
  unfold mWhile
  constructor
  · intro h
    split at h
    · exact ⟨_, h⟩
    · cases h
  · rintro ⟨n, h⟩
    have ex : ∃ n r, whileF c body n E = some r := ⟨n, r, h⟩
    rw [dif_pos ex]
    obtain ⟨r2, h2⟩ := ex.choose_spec
    rw [h2]
    have a := whileF_mono (Nat.le_max_left n ex.choose) h
    have b := whileF_mono (Nat.le_max_right n ex.choose) h2
    rw [a] at b
    exact b.symm
theorem while_of {w : List Nat} {c : Ft} {body : Fs} {D : Ends} (q : sOf K w (mWhile c body) D σ H) : tWhile (cOf K c) (sOf K w body) D σ H := by
  obtain ⟨Z, E, R, s, fl, E', e, q⟩ := q
  obtain ⟨n, e⟩ := mWhile_some.mp e
  refine ⟨fun m σ1 H1 => ∃ Z1 E1 R1, S K Z1 H1 σ1 E1 R1 ∧ Step Z H (ow R) Z1 H1 (ow R1) ∧ (∀ i, i ∉ w → σ1[i]? = σ[i]?) ∧ whileF c body m E1 = some (fl, E'), ⟨n, Z, E, R, s, .refl, fun _ _ => rfl, e⟩, ?_⟩
  rintro m σ1 H1 ⟨Z1, E1, R1, s1, t1, k1, e1⟩
  cases m with
  | zero => cases e1
  | succ m =>
    simp only [whileF] at e1
    cases e2 : c E1 with
    | none => rw [e2] at e1; cases e1
    | some p =>
      obtain ⟨b, E2⟩ := p
      rw [e2] at e1
      simp only [Option.bind_some] at e1
      refine ⟨Z1, E1, R1, s1, b, E2, e2, fun Z2 H2 R2 s2 t2 => ?_⟩
      cases b with
      | false =>
        rw [if_neg Bool.false_ne_true] at e1 ⊢
        cases e1
        exact q σ1 Z2 H2 R2 s2 (t1.trans t2) k1
      | true =>
        rw [if_pos rfl] at e1 ⊢
        cases e3 : body E2 with
        | none => rw [e3] at e1; cases e1
        | some p3 =>
          obtain ⟨f3, E3⟩ := p3
          rw [e3] at e1
          simp only [Option.bind_some] at e1
          refine ⟨fun σ3 H3 => ∃ Z3 R3, S K Z3 H3 σ3 E3 R3 ∧ Step Z H (ow R) Z3 H3 (ow R3) ∧ (∀ i, i ∉ w → σ3[i]? = σ[i]?) ∧ whileF c body m E3 = some (fl, E'), fun σ3 H3 ⟨Z3, R3, a, b, c, d⟩ => ⟨m, by omega, Z3, E3, R3, a, b, c, d⟩, Z2, E2, R2, s2, f3, E3, e3, fun σ3 Z3 H3 R3 s3 t3 k3 => ?_⟩
          have k4 : ∀ i, i ∉ w → σ3[i]? = σ[i]? := fun i hi => (k3 i hi).trans (k1 i hi)
          cases f3 with
          | nx => exact ⟨Z3, R3, s3, (t1.trans t2).trans t3, k4, e1⟩
          | ct => exact ⟨Z3, R3, s3, (t1.trans t2).trans t3, k4, e1⟩
          | bk => cases e1; exact q σ3 Z3 H3 R3 s3 ((t1.trans t2).trans t3) k4
          | rt d n =>
            cases e1
            exact fun v rs ov fr => q σ3 Z3 H3 R3 s3 ((t1.trans t2).trans t3) k4 v rs ov (fr.trans (t1.trans t2).on (t1.trans t2).dm)
/-- a target that takes a frozen thing -/
abbrev Fg := D → Ev → Option Ev
def gOf (K : PySem.W.Frag) (w : List Nat) (f : Fg) : TG := fun v σ H Q => ∃ Z E R d, S K Z H σ E R ∧ Rp K Z H v d ∧ ∃ E', f d E = some E' ∧
  ∀ σ' R', S K Z H σ' E' R' → Step Z H (ow R) Z H (ow R') → (∀ i, i ∉ w → σ'[i]? = σ[i]?) → Q σ' H
def gsOf (K : PySem.W.Frag) (w : List Nat) (f : List D → Ev → Option Ev) : TGs := fun vs σ H Q => ∃ Z E R ds, S K Z H σ E R ∧ Rps K Z H vs ds ∧ ∃ E', f ds E = some E' ∧
  ∀ σ' R', S K Z H σ' E' R' → Step Z H (ow R) Z H (ow R') → (∀ i, i ∉ w → σ'[i]? = σ[i]?) → Q σ' H
def tgV (i : Nat) : Fg := fun d E => if i < E.length then some (E.set i (some (d, 0))) else none
theorem gn_of {i : Nat} {v : V} {Q : L2.St → Hp → Prop} (q : gOf K [i] (tgV i) v σ H Q) : gName i v σ H Q := by
  obtain ⟨Z, E, R, d, s, r, E', e, q⟩ := q
  unfold tgV at e
  split at e
  · rename_i hi
    cases e
    refine q _ _ (s.setSlot (rs := []) hi ⟨rfl, r⟩ List.nodup_nil fun a m => by simp at m) ⟨fun _ h => h, fun _ h => .inl h, fun _ _ h _ => h, fun a h => ?_, fun _ h => h⟩ fun j hj => ?_
    · rcases ow_put h with h | h
      · simp at h
      · exact .inl h
    · rw [List.getElem?_set_ne (fun c => hj (by simp [c]))]
  · cases e
def tgN : List D → Ev → Option Ev := fun ds E => match ds with
  | [] => some E
  | _ => none
def tgC (f : Fg) (g : List D → Ev → Option Ev) : List D → Ev → Option Ev := fun ds E => match ds with
  | d :: ds => (f d E).bind fun E1 => g ds E1
  | [] => none
theorem gnil_of {vs : List V} {Q : L2.St → Hp → Prop} {w : List Nat} (q : gsOf K w tgN vs σ H Q) : gNil vs σ H Q := by
  obtain ⟨Z, E, R, ds, s, r, E', e, q⟩ := q
  cases r with
  | nil => cases e; exact ⟨rfl, q σ R s .refl fun _ _ => rfl⟩
  | cons h t => cases e
theorem gcons_of {f : Fg} {g : List D → Ev → Option Ev} {vs : List V} {Q : L2.St → Hp → Prop} {w w1 w2 : List Nat} (h1 : ∀ i ∈ w1, i ∈ w) (h2 : ∀ i ∈ w2, i ∈ w) (q : gsOf K w (tgC f g) vs σ H Q) : gCons (gOf K w1 f) (gsOf K w2 g) vs σ H Q := by
  obtain ⟨Z, E, R, ds, s, r, E', e, q⟩ := q
  cases r with
  | nil => cases e
  | cons h t =>
    rename_i v d vs ds
    unfold tgC at e
    simp only at e
    cases e1 : f d E with
    | none => rw [e1] at e; cases e
    | some E1 =>
      rw [e1] at e
      refine ⟨v, vs, rfl, Z, E, R, d, s, h, E1, e1, fun σ1 R1 s1 t1 k1 => ?_⟩
      exact ⟨Z, E1, R1, ds, s1, t, E', e, fun σ2 R2 s2 t2 k2 => q σ2 R2 s2 (t1.trans t2) fun i hi => (k2 i fun m => hi (h2 i m)).trans (k1 i fun m => hi (h1 i m))⟩
/-- (a, b, ..) -/
def tgT (n : Nat) (g : List D → Ev → Option Ev) : Fg := fun d E => match d with
  | .tup ds => if ds.length = n then g ds E else none
  | .con ds => if ds.length = n then g ds E else none
  | .lst ds => if ds.length = n then g ds E else none
  | _ => none
theorem gt_of {n : Nat} {g : List D → Ev → Option Ev} {v : V} {Q : L2.St → Hp → Prop} {w : List Nat} (q : gOf K w (tgT n g) v σ H Q) : gTup K n (gsOf K w g) v σ H Q ∨ gUnl K n (gsOf K w g) v σ H Q := by
  obtain ⟨Z, E, R, d, s, r, E', e, q⟩ := q
  cases r with
  | tup h t =>
    unfold tgT at e
    simp only at e
    split at e
    · rename_i hl
      exact .inl ⟨_, _, rfl, .of h, by rw [t.len]; exact hl, Z, E, R, _, s, t, E', e, q⟩
    · cases e
  | con h t =>
    unfold tgT at e
    simp only at e
    split at e
    · rename_i hl
      exact .inl ⟨_, _, rfl, h.sq, by rw [t.len]; exact hl, Z, E, R, _, s, t, E', e, q⟩
    · cases e
  | lst z h t =>
    unfold tgT at e
    simp only at e
    split at e
    · rename_i hl
      exact .inr ⟨_, _, rfl, .inl (.inl h), by rw [t.len]; exact hl, Z, E, R, _, s, t, E', e, q⟩
    · cases e
  | _ => cases e
/-- target = e -/
def mAsg (g : Fg) (f : Fe) : Fs := fun E => (f E).bind fun p => (tk p.2 p.1).bind fun q => (g q.1 q.2.2).map fun E' => (.nx, E')
theorem asg_of {g : Fg} {f : Fe} {D : Ends} {w : List Nat} (q : sOf K w (mAsg g f) D σ H) : eOf K f σ H fun v H1 => gOf K w g v σ H1 D.nx := by
  obtain ⟨Z, E, R, s, fl, E', e, q⟩ := q
  unfold mAsg at e
  cases e1 : f E with
  | none => rw [e1] at e; cases e
  | some p =>
    obtain ⟨o, E1⟩ := p
    rw [e1] at e
    simp only [Option.bind_some] at e
    cases e2 : tk E1 o with
    | none => rw [e2] at e; cases e
    | some p2 =>
      obtain ⟨d, n, E2⟩ := p2
      rw [e2] at e
      simp only [Option.bind_some] at e
      cases e3 : g d E2 with
      | none => rw [e3] at e; cases e
      | some E3 =>
        rw [e3] at e
        cases e
        refine ⟨Z, E, R, s, o, E1, e1, fun v Z1 H1 R1 rs s1 t1 ov f1 => ?_⟩
        obtain ⟨Z2, R2, s2, t2, o2, n2, sub2⟩ := s1.take ov f1.no e2
        have s3 := s2.chill n2 o2.there
        have r : Rp K (fun a => Z2 a ∨ a ∈ rs) H1 v d := o2.freeze ⟨fun _ h => .inl h, fun _ _ _ h => h, fun _ _ h _ => h⟩ fun a m => ⟨rfl, .inr m⟩
        have t3 : Step Z H (ow R) (fun a => Z2 a ∨ a ∈ rs) H1 (ow R2) := (t1.trans t2).fin (fun _ h => .inl h) (fun a z => by
          rcases z with z | z
          · exact .inl z
          · rcases f1.of a z with z | z
            · exact .inr (.inr (.inl z))
            · exact .inr (.inr (.inr z))) (.refl _) fun a h => .inl h
        exact ⟨_, E2, R2, d, s3, r, E', e3, fun σ' R' s' t' k' => q σ' _ H1 R' s' (t3.trans t') k'⟩

/-- what a loop walks: its things, all frozen -/
structure IOk (K : PySem.W.Frag) (J : It) (its : List D) (Z0 : Addr → Prop) (H0 : Hp) : Prop where
  go : ∀ Z H i, Pers Z0 H0 Z H → i < its.length → J.go i H
  stop : ∀ Z H, Pers Z0 H0 Z H → J.stop its.length H
  yld : ∀ Z H i x H', Pers Z0 H0 Z H → i < its.length → J.yld i H x H' → More H H' ∧ ∃ d, its[i]? = some d ∧ Rp K Z H' x d
abbrev Fi := Ev → Option (List D × Ev)
def iOf (K : PySem.W.Frag) (f : Fi) : TI := fun σ H Rk => ∃ Z E R, S K Z H σ E R ∧ ∃ its E', f E = some (its, E') ∧
  ∀ J Z' H' R', S K Z' H' σ E' R' → Step Z H (ow R) Z' H' (ow R') → IOk K J its Z' H' → Rk J H'
abbrev AI (X : Cx) (tg iter : Expr) (f : Fi) : Prop := PI X tg iter (iOf X.K f)
theorem PI.mono {X : Cx} {tg iter : Expr} {t t' : TI} (h : PI X tg iter t) (m : ∀ σ H R, t' σ H R → t σ H R) : PI X tg iter t' := ⟨fun pins s σ H R I q => h.run pins s σ H R I (m σ H R q)⟩
def forM (g : Fg) (body : Fs) : List D → Fs
  | [] => fun E => some (.nx, E)
  | d :: ds => fun E => (g d E).bind fun E1 => (body E1).bind fun q => match q.1 with
    | .nx => forM g body ds q.2
    | .ct => forM g body ds q.2
    | .bk => some (.nx, q.2)
    | .rt d k => some (.rt d k, q.2)
def mFor (it : Fi) (g : Fg) (body : Fs) : Fs := fun E => (it E).bind fun p => forM g body p.1 p.2
theorem for_of {w w1 w2 : List Nat} {it : Fi} {g : Fg} {body : Fs} {D : Ends} (h1 : ∀ i ∈ w1, i ∈ w) (h2 : ∀ i ∈ w2, i ∈ w) (q : sOf K w (mFor it g body) D σ H) : tFor (iOf K it) (gOf K w1 g) (sOf K w2 body) D σ H := by
  obtain ⟨Z, E, R, s, fl, E', e, q⟩ := q
  unfold mFor at e
  cases e1 : it E with
  | none => rw [e1] at e; cases e
  | some p =>
    obtain ⟨its, E1⟩ := p
    rw [e1] at e
    simp only [Option.bind_some] at e
    refine ⟨Z, E, R, s, its, E1, e1, fun J Z1 H1 R1 s1 t1 ok => ?_⟩
    refine ⟨fun i m σ2 H2 => ∃ Z2 E2 R2, S K Z2 H2 σ2 E2 R2 ∧ Step Z1 H1 (ow R1) Z2 H2 (ow R2) ∧ (∀ j, j ∉ w → σ2[j]? = σ[j]?) ∧ m = its.length - i ∧ i ≤ its.length ∧ forM g body (its.drop i) E2 = some (fl, E'),
      ⟨its.length, Z1, E1, R1, s1, .refl, fun _ _ => rfl, by simp, Nat.zero_le _, e⟩, ?_⟩
    rintro i m σ2 H2 ⟨Z2, E2, R2, s2, t2, k2, rfl, hi, e2⟩
    have p2 : Pers Z1 H1 Z2 H2 := s1.pers t2
    by_cases hlt : i < its.length
    · right
      refine ⟨ok.go Z2 H2 i p2 hlt, ?_⟩
      rw [List.drop_eq_getElem_cons hlt] at e2
      simp only [forM] at e2
      cases e3 : g its[i] E2 with
      | none => rw [e3] at e2; cases e2
      | some E3 =>
        rw [e3] at e2
        simp only [Option.bind_some] at e2
        cases e4 : body E3 with
        | none => rw [e4] at e2; cases e2
        | some p4 =>
          obtain ⟨f4, E4⟩ := p4
          rw [e4] at e2
          simp only [Option.bind_some] at e2
          refine ⟨fun σ5 H5 => ∃ Z5 R5, S K Z5 H5 σ5 E4 R5 ∧ Step Z1 H1 (ow R1) Z5 H5 (ow R5) ∧ (∀ j, j ∉ w → σ5[j]? = σ[j]?) ∧ forM g body (its.drop (i + 1)) E4 = some (fl, E'),
            fun σ5 H5 ⟨Z5, R5, a, b, c, d⟩ => ⟨its.length - (i + 1), by omega, Z5, E4, R5, a, b, c, rfl, hlt, d⟩, fun x H3 y => ?_⟩
          obtain ⟨m3, d, hd, rx⟩ := ok.yld Z2 H2 i x H3 p2 hlt y
          have ed : its[i] = d := by rw [List.getElem?_eq_getElem hlt] at hd; exact Option.some.inj hd
          refine ⟨Z2, E2, R2, d, s2.more m3, rx, E3, by rw [← ed]; exact e3, fun σ4 R4 s4 t4 k4 => ?_⟩
          have t24 := (t2.trans (m3.step _)).trans t4
          refine ⟨Z2, E3, R4, s4, f4, E4, e4, fun σ5 Z5 H5 R5 s5 t5 k5 => ?_⟩
          have k6 : ∀ j, j ∉ w → σ5[j]? = σ[j]? := fun j hj => ((k5 j fun m => hj (h2 j m)).trans (k4 j fun m => hj (h1 j m))).trans (k2 j hj)
          cases f4 with
          | nx => exact ⟨Z5, R5, s5, t24.trans t5, k6, e2⟩
          | ct => exact ⟨Z5, R5, s5, t24.trans t5, k6, e2⟩
          | bk => cases e2; exact q σ5 Z5 H5 R5 s5 (t1.trans (t24.trans t5)) k6
          | rt d n =>
            cases e2
            exact fun v rs ov fr => q σ5 Z5 H5 R5 s5 (t1.trans (t24.trans t5)) k6 v rs ov (fr.trans (t1.trans t24).on (t1.trans t24).dm)
    · left
      have ei : i = its.length := by omega
      subst ei
      rw [List.drop_length] at e2
      cases e2
      exact ⟨ok.stop Z2 H2 p2, q σ2 Z2 H2 R2 s2 (t1.trans t2) k2⟩
end
end Zk
namespace Zk
open PySem PySem.Spec PyProof.Rows L2

section
variable {K : PySem.W.Frag} {Z Z' Zf Z0 : Addr → Prop} {H H' H0 : Hp} {σ : L2.St} {E E' : Ev} {R R' R0 : Rs}
def seqD : D → Option (List D)
  | .lst ds => some ds
  | .tup ds => some ds
  | .con ds => some ds
  | .scr ns => some (ns.map D.int)
  | _ => none
def mSq (f : Fe) : Fi := fun E => (f E).bind fun p => (tk p.2 p.1).bind fun q => (seqD q.1).map fun ds => (ds, q.2.2)
theorem iok_list {a : Addr} {vs : List V} {ds : List D} (z : Z a) (h : H a = some (.lst vs)) (r : Rps K Z H vs ds) : IOk K (Itl K a) ds Z H where
  go := fun Z2 H2 i p hi => by
    obtain ⟨v, hv, _⟩ := r.getD (List.getElem?_eq_getElem hi)
    exact ⟨vs, v, .inl (.inl (p.hz a _ z h)), hv⟩
  stop := fun Z2 H2 p => ⟨vs, .inl (.inl (p.hz a _ z h)), by rw [r.len]; exact Nat.le_refl _⟩
  yld := fun Z2 H2 i x H3 p hi y => by
    obtain ⟨e, y⟩ := y
    subst e
    have hx := y vs (.inl (.inl (p.hz a _ z h)))
    obtain ⟨d, hd, rd⟩ := (r.pers p).get hx
    exact ⟨.refl _, d, hd, rd⟩
theorem iok_scr {a : Addr} {vs : List V} {ds : List D} (h : SqF K H a vs) (r : Rps K Z H vs ds) : IOk K (Itl K a) ds Z H where
  go := fun Z2 H2 i p hi => by
    obtain ⟨v, hv, _⟩ := r.getD (List.getElem?_eq_getElem hi)
    exact ⟨vs, v, (p.sqF h).sq, hv⟩
  stop := fun Z2 H2 p => ⟨vs, (p.sqF h).sq, by rw [r.len]; exact Nat.le_refl _⟩
  yld := fun Z2 H2 i x H3 p hi y => by
    obtain ⟨e, y⟩ := y
    subst e
    have hx := y vs (p.sqF h).sq
    obtain ⟨d, hd, rd⟩ := (r.pers p).get hx
    exact ⟨.refl _, d, hd, rd⟩
theorem iok_tup {a : Addr} {vs : List V} {ds : List D} (h : ∀ Z2 H2, Pers Z H Z2 H2 → SqT K H2 a vs) (r : Rps K Z H vs ds) : IOk K (Itt K a) ds Z H where
  go := fun Z2 H2 i p hi => by
    obtain ⟨v, hv, _⟩ := r.getD (List.getElem?_eq_getElem hi)
    exact ⟨vs, v, h _ _ p, hv⟩
  stop := fun Z2 H2 p => ⟨vs, h _ _ p, by rw [r.len]; exact Nat.le_refl _⟩
  yld := fun Z2 H2 i x H3 p hi y => by
    obtain ⟨e, y⟩ := y
    subst e
    have hx := y vs (h _ _ p)
    obtain ⟨d, hd, rd⟩ := (r.pers p).get hx
    exact ⟨.refl _, d, hd, rd⟩
/-- an end, taken and frozen -/
theorem S.takeFrz (s : S K Z H σ E R) (t0 : Step Z0 H0 (ow R0) Z H (ow R)) {v : V} {o : Op} {d : D} {n : Nat} {rs : List Addr} (h : OV K Z H σ v o rs) (f : Fr R0 H0 R rs) (e : tk E o = some (d, n, E')) :
    ∃ Z' R', S K Z' H σ E' R' ∧ Step Z0 H0 (ow R0) Z' H (ow R') ∧ Rp K Z' H v d := by
  obtain ⟨Z2, R2, s2, t2, o2, n2, sub2⟩ := s.take h f.no e
  refine ⟨_, R2, s2.chill n2 o2.there, (t0.trans t2).fin (fun _ h => .inl h) (fun a z => ?_) (.refl _) fun a h => .inl h, o2.freeze ⟨fun _ h => .inl h, fun _ _ _ h => h, fun _ _ h _ => h⟩ fun a m => ⟨rfl, .inr m⟩⟩
  rcases z with z | z
  · exact .inl z
  · rcases f.of a z with z | z
    · exact .inr (.inr (.inl z))
    · exact .inr (.inr (.inr z))
theorem sq_of {f : Fe} {Rk : It → Hp → Prop} (q : iOf K (mSq f) σ H Rk) : iList K (eOf K f) σ H Rk ∨ iTup K (eOf K f) σ H Rk := by
  obtain ⟨Z, E, R, s, its, E', e, q⟩ := q
  unfold mSq at e
  cases e1 : f E with
  | none => rw [e1] at e; cases e
  | some p =>
    obtain ⟨o, E1⟩ := p
    rw [e1] at e
    simp only [Option.bind_some] at e
    cases e2 : tk E1 o with
    | none => rw [e2] at e; cases e
    | some p2 =>
      obtain ⟨d, n, E2⟩ := p2
      rw [e2] at e
      simp only [Option.bind_some] at e
      cases d with
      | lst ds =>
        cases e
        refine .inl ⟨Z, E, R, s, o, E1, e1, fun v Z1 H1 R1 rs s1 t1 ov f1 => ?_⟩
        obtain ⟨Z2, R2, s2, t2, r⟩ := s1.takeFrz t1 ov f1 e2
        cases r with
        | lst z h r => exact ⟨_, rfl, ⟨_, .inl (.inl h)⟩, q _ Z2 H1 R2 s2 t2 (iok_list z h r)⟩
      | scr ns =>
        cases e
        refine .inl ⟨Z, E, R, s, o, E1, e1, fun v Z1 H1 R1 rs s1 t1 ov f1 => ?_⟩
        obtain ⟨Z2, R2, s2, t2, r⟩ := s1.takeFrz t1 ov f1 e2
        cases r with
        | scr h => exact ⟨_, rfl, ⟨_, h.sq⟩, q _ Z2 H1 R2 s2 t2 (iok_scr h (Rps.ofInts ns))⟩
      | tup ds =>
        cases e
        refine .inr ⟨Z, E, R, s, o, E1, e1, fun v Z1 H1 R1 rs s1 t1 ov f1 => ?_⟩
        obtain ⟨Z2, R2, s2, t2, r⟩ := s1.takeFrz t1 ov f1 e2
        cases r with
        | tup h r => exact ⟨_, rfl, ⟨_, .of h⟩, q _ Z2 H1 R2 s2 t2 (iok_tup (fun Z3 H3 p => .of (p.tp _ _ h fun z => z)) r)⟩
      | con ds =>
        cases e
        refine .inr ⟨Z, E, R, s, o, E1, e1, fun v Z1 H1 R1 rs s1 t1 ov f1 => ?_⟩
        obtain ⟨Z2, R2, s2, t2, r⟩ := s1.takeFrz t1 ov f1 e2
        cases r with
        | con h r => exact ⟨_, rfl, ⟨_, h.sq⟩, q _ Z2 H1 R2 s2 t2 (iok_tup (fun Z3 H3 p => h.sq) r)⟩
      | _ => cases e
def rng (lo : Int) (n : Nat) : List D := (List.range n).map fun k => D.int (lo + (k : Nat))
@[simp] theorem rng_len (lo : Int) (n : Nat) : (rng lo n).length = n := by simp [rng]
def rgOk (j : Int) : Prop := -(2 ^ 62) ≤ j ∧ j < 2 ^ 62
instance (j : Int) : Decidable (rgOk j) := inferInstanceAs (Decidable (_ ∧ _))
def mRg1 (a : Fe) : Fi := fun E => (a E).bind fun p => (rd p.2 p.1).bind fun d => match d with
  | .int j => if rgOk j then some (rng 0 j.toNat, p.2) else none
  | _ => none
def mRg2 (a b : Fe) : Fi := fun E => (a E).bind fun p => (b p.2).bind fun p2 => (rd p2.2 p.1).bind fun d => (rd p2.2 p2.1).bind fun d2 => match d, d2 with
  | .int i, .int j => if rgOk i ∧ rgOk j then some (rng i (j - i).toNat, p2.2) else none
  | _, _ => none
theorem iok_rng (lo : Int) (n : Nat) : IOk K (Itr lo n) (rng lo n) Z H where
  go := fun Z2 H2 i p hi => by
    have h : i < n := by simpa using hi
    exact h
  stop := fun Z2 H2 p => by simp [Itr]
  yld := fun Z2 H2 i x H3 p hi y => by
    obtain ⟨e, y⟩ := y
    subst e y
    have hi : i < n := by simpa using hi
    exact ⟨.refl _, .int (lo + i), by simp [rng, hi], .int _⟩
theorem rg1_of {a : Fe} {Rk : It → Hp → Prop} (q : iOf K (mRg1 a) σ H Rk) : eOf K a σ H fun v H1 => ∃ j : Int, v = .int j ∧ -(2 ^ 62) ≤ j ∧ j < 2 ^ 62 ∧ Rk (Itr 0 j.toNat) H1 := by
  obtain ⟨Z, E, R, s, its, E', e, q⟩ := q
  unfold mRg1 at e
  cases e1 : a E with
  | none => rw [e1] at e; cases e
  | some p =>
    obtain ⟨o, E1⟩ := p
    rw [e1] at e
    simp only [Option.bind_some] at e
    cases e2 : rd E1 o with
    | none => rw [e2] at e; cases e
    | some d =>
      rw [e2] at e
      simp only [Option.bind_some] at e
      split at e
      · split at e
        · rename_i hj
          cases e
          refine ⟨Z, E, R, s, o, _, e1, fun v Z1 H1 R1 rs s1 t1 ov f1 => ⟨_, (s1.read ov e2).intE, hj.1, hj.2, q _ Z1 H1 R1 s1 t1 (iok_rng _ _)⟩⟩
        · cases e
      · cases e
theorem rg2_of {a b : Fe} {Rk : It → Hp → Prop} (q : iOf K (mRg2 a b) σ H Rk) : eOf K a σ H fun v H1 => eOf K b σ H1 fun u H2 => ∃ i j : Int, v = .int i ∧ u = .int j ∧ (-(2 ^ 62) ≤ i ∧ i < 2 ^ 62 ∧ -(2 ^ 62) ≤ j ∧ j < 2 ^ 62) ∧ Rk (Itr i (j - i).toNat) H2 := by
  obtain ⟨Z, E, R, s, its, E', e, q⟩ := q
  unfold mRg2 at e
  cases e1 : a E with
  | none => rw [e1] at e; cases e
  | some p =>
    obtain ⟨o, E1⟩ := p
    rw [e1] at e
    simp only [Option.bind_some] at e
    cases e2 : b E1 with
    | none => rw [e2] at e; cases e
    | some p2 =>
      obtain ⟨o2, E2⟩ := p2
      rw [e2] at e
      simp only [Option.bind_some] at e
      cases e3 : rd E2 o with
      | none => rw [e3] at e; cases e
      | some d =>
        cases e4 : rd E2 o2 with
        | none => rw [e3, e4] at e; cases e
        | some d2 =>
          rw [e3, e4] at e
          simp only [Option.bind_some] at e
          split at e
          · split at e
            · rename_i hj
              cases e
              refine ⟨Z, E, R, s, o, E1, e1, fun v Z1 H1 R1 rs s1 t1 ov f1 => ?_⟩
              refine ⟨Z1, E1, R1, s1, o2, _, e2, fun u Z2 H2 R2 rs2 s2 t2 ov2 f2 => ?_⟩
              exact ⟨_, _, (s2.read (s1.pendO t2 ov f1.no).1 e3).intE, (s2.read ov2 e4).intE, ⟨hj.1.1, hj.1.2, hj.2.1, hj.2.2⟩, q _ Z2 H2 R2 s2 (t1.trans t2) (iok_rng _ _)⟩
            · cases e
          · cases e

theorem Own.dE {n : Nat} {v : V} {d : D} {rs : List Addr} (h : Own K Z H (n + 1) v d rs) (nd : rs.Nodup) : (∀ kds, d = .dK kds → ∃ a kvs, v = .ref a ∧ H a = some (.dK kvs) ∧ ¬ Z a ∧ a ∈ rs ∧ KR K (fun b => Z b ∨ (b ∈ rs ∧ b ≠ a)) H kvs kds ∧ (imms (kds.map (·.2)) = true → KR K Z H kvs kds)) ∧
    (∀ kds, d = .dT kds → ∃ a kvs, v = .ref a ∧ H a = some (.dT kvs) ∧ ¬ Z a ∧ a ∈ rs ∧ KR K (fun b => Z b ∨ (b ∈ rs ∧ b ≠ a)) H kvs kds ∧ (imms (kds.map (·.2)) = true → KR K Z H kvs kds)) := by
  have go : ∀ (a : Addr) (rss : List (List Addr)) (vs : List V) (ds : List D), rs = a :: rss.flatten → All3 (Own K Z H n) vs ds rss → Rps K (fun b => Z b ∨ (b ∈ rs ∧ b ≠ a)) H vs ds := fun a rss vs ds er al => by
    have p : Pers Z H (fun b => Z b ∨ (b ∈ rs ∧ b ≠ a)) H := ⟨fun _ h => .inl h, fun _ _ _ h => h, fun _ _ h _ => h⟩
    rw [er] at nd
    have n1 := (List.nodup_cons.mp nd).1
    exact All3.rps (R := fun _ _ => True) (P := fun v d _ => Rp K (fun b => Z b ∨ (b ∈ rs ∧ b ≠ a)) H v d) (fun _ _ _ h => h) (al.imp fun v d rs' m o => o.freeze p fun b hb => ⟨rfl, .inr ⟨by rw [er]; exact List.mem_cons_of_mem _ (mem_flatten_of m hb), fun e => n1 (by rw [← e]; exact mem_flatten_of m hb)⟩⟩)
  constructor
  · rintro kds rfl
    obtain ⟨a, kvs, rss, e, ha, z, e2, al, er⟩ := h
    exact ⟨a, kvs, e, ha, z, by rw [er]; exact List.mem_cons_self, ⟨e2, go a rss _ _ er al⟩, fun i => ⟨e2, (al.immRps i).1⟩⟩
  · rintro kds rfl
    obtain ⟨a, kvs, rss, e, ha, z, e2, al, er⟩ := h
    exact ⟨a, kvs, e, ha, z, by rw [er]; exact List.mem_cons_self, ⟨e2, go a rss _ _ er al⟩, fun i => ⟨e2, (al.immRps i).1⟩⟩
/-- the depth of a dict behind a store -/
def updl {κ : Type} (n : Nat) (kds : List (κ × D)) (dv : D) : Nat := if imms (kds.map (·.2)) = true ∧ imm dv = true then n else 1
theorem imms_put {κ : Type} [DecidableEq κ] {kds : List (κ × D)} {k : κ} {dv : D} (h : imms (kds.map (·.2)) = true) (i : imm dv = true) : imms ((putD kds k dv).map (·.2)) = true := by
  rw [imms_all, List.all_eq_true] at h ⊢
  intro x hx
  unfold putD at hx
  split at hx
  · rw [List.map_map] at hx
    obtain ⟨p, hp, e⟩ := List.mem_map.mp hx
    simp only [Function.comp_apply] at e
    split at e
    · subst e; exact i
    · subst e; exact h _ (List.mem_map.mpr ⟨p, hp, rfl⟩)
  · rw [List.map_append, List.mem_append] at hx
    rcases hx with hx | hx
    · exact h x hx
    · have : x = dv := by simpa using hx
      rw [this]; exact i
/-- a store into the owned dict of slot i: con tells the kind of dict -/
theorem S.dput {κ : Type} [DecidableEq κ] (conD : List (κ × D) → D) (conH : List (κ × V) → HO) (s : S K Z H σ E R) (t0 : Step Z0 H0 (ow R0) Z H (ow R)) {i : Nat} {kds : List (κ × D)} {n : Nat} (e : eg E i = some (conD kds, n + 1))
    (dE : ∀ {v : V} {rs : List Addr}, Own K Z H (n + 1) v (conD kds) rs → rs.Nodup → ∃ a kvs, v = .ref a ∧ H a = some (conH kvs) ∧ ¬ Z a ∧ a ∈ rs ∧ KR K (fun b => Z b ∨ (b ∈ rs ∧ b ≠ a)) H kvs kds ∧ (imms (kds.map (·.2)) = true → KR K Z H kvs kds))
    (mk : ∀ {Z : Addr → Prop} {H : Hp} {a : Addr} {kvs : List (κ × V)} {kds : List (κ × D)} {m : Nat}, H a = some (conH kvs) → ¬ Z a → kvs.map (·.1) = kds.map (·.1) → All3 (Own K Z H m) (kvs.map (·.2)) (kds.map (·.2)) ((kds.map (·.2)).map fun _ => []) → Own K Z H (m + 1) (.ref a) (conD kds) [a])
    {v : V} {dv : D} {nv : Nat} {rv : List Addr} (hv : Own K Z H nv v dv rv) (fr : Fr R0 H0 R rv) (k : κ) (mutH : ∀ kvs, Mut (some (conH kvs))) :
    ∃ a kvs, σ[i]? = some (some (.ref a)) ∧ H a = some (conH kvs) ∧ kvs.length = kds.length ∧ ∃ Zf rs', S K Zf (upd H a (conH (putK kvs k v))) σ (E.set i (some (conD (putD kds k dv), updl (n + 1) kds dv))) (put R i rs') ∧
      Step Z0 H0 (ow R0) Zf (upd H a (conH (putK kvs k v))) (ow (put R i rs')) := by
  obtain ⟨w, e1, o1⟩ := s.slot i _ _ e
  obtain ⟨a, kvs, rfl, ha, nz, aR, kr, kri⟩ := dE o1 (s.nd i)
  refine ⟨a, kvs, e1, ha, kr.len, ?_⟩
  have aow : ow R a := ⟨i, aR⟩
  have pz : ∀ {Z1 : Addr → Prop}, ¬ Z1 a → Pers Z1 H Z1 (upd H a (conH (putK kvs k v))) := fun nz1 => ⟨fun _ h => h, fun b o z e => by
    have ne : b ≠ a := fun e2 => nz1 (by rw [← e2]; exact z)
    rw [upd_ne ne]; exact e, fun b o e n => by
    have ne : b ≠ a := fun e2 => n (by rw [e2, ha] at e; cases e; exact mutH _)
    rw [upd_ne ne]; exact e⟩
  unfold updl
  split
  · rename_i hc
    obtain ⟨rfl, rvp⟩ := hv.imm hc.2
    have kr2 := ((kri hc.1).put k rvp)
    have kr3 : KR K Z (upd H a (conH (putK kvs k v))) (putK kvs k v) (putD kds k dv) := ⟨kr2.1, kr2.2.pers (pz nz)⟩
    have new := mk (Z := Z) (m := n) (upd_same (H := H) (a := a)) nz kr3.1 (All3.ofRpsI kr3.2 (imms_put hc.1 hc.2))
    have inR : ∀ b ∈ [a], b ∈ R i ∨ b ∈ ([] : List Addr) := fun b m => by
      have e : b = a := by simpa using m
      exact .inl (by rw [e]; exact aR)
    exact ⟨Z, [a], s.write t0 (ts := []) (eg_lt e) e1 aR new (fun _ h => h) (fun b z => .inl z) inR (by simp) (fun b m => by simp at m) (fun b m => by simp at m) fun b m => by simp at m⟩
  · have p : Pers Z H (fun b => Z b ∨ (b ∈ R i ∧ b ≠ a) ∨ b ∈ rv) H := ⟨fun _ h => .inl h, fun _ _ _ h => h, fun _ _ h _ => h⟩
    have nzf : ¬ (Z a ∨ (a ∈ R i ∧ a ≠ a) ∨ a ∈ rv) := fun z => by
      rcases z with z | z | z
      · exact nz z
      · exact z.2 rfl
      · exact fr.no a z aow
    have rvp : Rp K (fun b => Z b ∨ (b ∈ R i ∧ b ≠ a) ∨ b ∈ rv) H v dv := hv.freeze p fun b hb => ⟨rfl, .inr (.inr hb)⟩
    have kr1 : KR K (fun b => Z b ∨ (b ∈ R i ∧ b ≠ a) ∨ b ∈ rv) H kvs kds := ⟨kr.1, kr.2.pers ⟨fun b z => z.elim .inl fun z => .inr (.inl z), fun _ _ _ h => h, fun _ _ h _ => h⟩⟩
    have kr2 := kr1.put k rvp
    have kr3 : KR K (fun b => Z b ∨ (b ∈ R i ∧ b ≠ a) ∨ b ∈ rv) (upd H a (conH (putK kvs k v))) (putK kvs k v) (putD kds k dv) := ⟨kr2.1, kr2.2.pers (pz nzf)⟩
    have new := mk (m := 0) (upd_same (H := H) (a := a)) nzf kr3.1 (All3.ofRps0 kr3.2)
    refine ⟨_, [a], s.write t0 (ts := rv) (eg_lt e) e1 aR new (fun _ h => .inl h) (fun b z => ?_) (fun b m => .inl ?_) (by simp) fr.no hv.there fr.of⟩
    · rcases z with z | z | z
      · exact .inl z
      · exact .inr (.inl z.1)
      · exact .inr (.inr z)
    · have e : b = a := by simpa using m
      rw [e]; exact aR
/-- slot x [k] = v, by data -/
def putAt (E : Ev) (x : Nat) (k dv : D) (nv : Nat) : Option Ev := match eg E x with
  | some (.lst ds, n + 1) => match k with
    | .int i => (ixN ds.length i).map fun j => E.set x (some (.lst (ds.set j dv), upl (n + 1) (.lst ds) dv nv))
    | _ => none
  | some (.dK kds, n + 1) => (keyOf k).bind fun k => if kds.length < sizeLine then some (E.set x (some (.dK (putD kds k dv), updl (n + 1) kds dv))) else none
  | some (.dT kds, n + 1) => match k with
    | .tup ks => (keysOf ks).bind fun k => if kds.length < sizeLine then some (E.set x (some (.dT (putD kds k dv), updl (n + 1) kds dv))) else none
    | _ => none
  | _ => none
theorem S.putAt (s : S K Z H σ E R) (t0 : Step Z0 H0 (ow R0) Z H (ow R)) {x : Nat} {k dv : D} {nv : Nat} (e : Zk.putAt E x k dv nv = some E') {v kv : V} {rv : List Addr} (hv : Own K Z H nv v dv rv) (fr : Fr R0 H0 R rv) (hk : Rp K (fun _ => True) H kv k) :
    ∃ w, σ[x]? = some (some w) ∧ ∀ Q : Hp → Prop, (∀ Zf H' R', S K Zf H' σ E' R' → Step Z0 H0 (ow R0) Zf H' (ow R') → Q H') → rSetL w kv v H Q ∨ rSetD w kv v H Q := by
  unfold Zk.putAt at e
  split at e
  · rename_i ds n g
    split at e
    · rename_i i
      cases e1 : ixN ds.length i with
      | none => rw [e1] at e; cases e
      | some j =>
        rw [e1] at e
        cases e
        obtain ⟨a, vs, h1, h2, h3, Zf, rs', s', t'⟩ := s.edit t0 g hv fr (fun vs => vs.set j v) (fun ds => ds.set j dv) (fun rss rv => rss.set j rv) (fun Z H m vs rss rv al ho => al.set ho j) (fun rss rv h1 h2 h3 =>
          ⟨nodup_set_flat j h1 h2 h3, fun a m => nodup_set_flat.mem_set_flat j m⟩)
        cases hk.intE
        exact ⟨_, h1, fun Q q => .inl ⟨a, vs, i, j, rfl, rfl, h2, by rw [h3]; exact e1, q _ _ _ s' t'⟩⟩
    · cases e
  · rename_i kds n g
    cases e1 : keyOf k with
    | none => rw [e1] at e; cases e
    | some k' =>
      rw [e1] at e
      simp only [Option.bind_some] at e
      split at e
      · rename_i hl
        cases e
        obtain ⟨a, kvs, h1, h2, h3, Zf, rs', s', t'⟩ := s.dput D.dK HO.dK t0 g (fun o nd => (o.dE nd).1 kds rfl) (fun {Z H a kvs kds m} h z e al => ⟨a, kvs, _, rfl, h, z, e, al, by rw [flat_nils]⟩) hv fr k' (fun _ => trivial)
        cases key_kV hk e1
        exact ⟨_, h1, fun Q q => .inr ⟨a, _, rfl, .k h2 (by rw [h3]; exact hl), q _ _ _ s' t'⟩⟩
      · cases e
  · rename_i kds n g
    split at e
    · rename_i ks
      cases e1 : keysOf ks with
      | none => rw [e1] at e; cases e
      | some k' =>
        rw [e1] at e
        simp only [Option.bind_some] at e
        split at e
        · rename_i hl
          cases e
          obtain ⟨a, kvs, h1, h2, h3, Zf, rs', s', t'⟩ := s.dput D.dT HO.dT t0 g (fun o nd => (o.dE nd).2 kds rfl) (fun {Z H a kvs kds m} h z e al => ⟨a, kvs, _, rfl, h, z, e, al, by rw [flat_nils]⟩) hv fr k' (fun _ => trivial)
          cases hk with
          | tup hb rb =>
            cases keys_kV rb e1
            exact ⟨_, h1, fun Q q => .inr ⟨a, _, rfl, .t h2 hb (by rw [h3]; exact hl), q _ _ _ s' t'⟩⟩
        · cases e
    · cases e
  · cases e
/-- x[k] = v -/
def mPut (x : Nat) (fk fv : Fe) : Fs := fun E => (fv E).bind fun pv => if (eg pv.2 x).isSome = true then (fk pv.2).bind fun pk => (rd pk.2 pk.1).bind fun k => (tk pk.2 pv.1).bind fun q => (putAt q.2.2 x k q.1 q.2.1).map fun E' => (.nx, E') else none
theorem put_of {x : Nat} {fk fv : Fe} {w : List Nat} {D : Ends} (q : sOf K w (mPut x fk fv) D σ H) : eOf K fv σ H fun v H1 => ∃ y, σ[x]? = some (some y) ∧ eOf K fk σ H1 fun kv H2 => rSetL y kv v H2 (fun H3 => D.nx σ H3) ∨ rSetD y kv v H2 fun H3 => D.nx σ H3 := by
  obtain ⟨Z, E, R, s, fl, E', e, q⟩ := q
  unfold mPut at e
  cases e1 : fv E with
  | none => rw [e1] at e; cases e
  | some p =>
    obtain ⟨o, E1⟩ := p
    rw [e1] at e
    simp only [Option.bind_some] at e
    split at e
    · rename_i hs
      cases e2 : fk E1 with
      | none => rw [e2] at e; cases e
      | some p2 =>
        obtain ⟨o2, E2⟩ := p2
        rw [e2] at e
        simp only [Option.bind_some] at e
        cases e3 : rd E2 o2 with
        | none => rw [e3] at e; cases e
        | some k =>
          rw [e3] at e
          simp only [Option.bind_some] at e
          cases e4 : tk E2 o with
          | none => rw [e4] at e; cases e
          | some p4 =>
            obtain ⟨dv, nv, E3⟩ := p4
            rw [e4] at e
            simp only [Option.bind_some] at e
            cases e5 : Zk.putAt E3 x k dv nv with
            | none => rw [e5] at e; cases e
            | some E5 =>
              rw [e5] at e
              cases e
              refine ⟨Z, E, R, s, o, E1, e1, fun v Z1 H1 R1 rs s1 t1 ov f1 => ?_⟩
              cases g : eg E1 x with
              | none => rw [g] at hs; simp at hs
              | some dn =>
                obtain ⟨y, ey, _⟩ := s1.slot x dn.1 dn.2 g
                refine ⟨y, ey, Z1, E1, R1, s1, o2, E2, e2, fun kv Z2 H2 R2 rs2 s2 t2 ov2 f2 => ?_⟩
                obtain ⟨pe, pn⟩ := s1.pendO t2 ov f1.no
                have rk := s2.read ov2 e3
                obtain ⟨Z3, R3, s3, t3, o3, n3, sub3⟩ := s2.take pe pn e4
                obtain ⟨w, ew, c⟩ := s3.putAt ((t1.trans t2).trans t3) e5 o3 ⟨f1.nd, n3, f1.of⟩ rk
                rw [ey] at ew
                cases ew
                exact c _ fun Zf H' R' s' t' => q σ Zf H' R' s' t' fun _ _ => rfl
    · cases e
end
section
variable {X : Cx}
theorem PSet.or {t u : TSet} (h : PSet X t) (h' : PSet X u) : PSet X fun o i v H Q => t o i v H Q ∨ u o i v H Q := fun pins s σ H o i v ov iv w Q I r1 r2 r3 q =>
  q.elim (h pins s σ H o i v ov iv w Q I r1 r2 r3) (h' pins s σ H o i v ov iv w Q I r1 r2 r3)
theorem PG.or {tg : Expr} {t u : TG} (h : PG X tg t) (h' : PG X tg u) : PG X tg fun v σ H Q => t v σ H Q ∨ u v σ H Q := ⟨fun pins s σ H v x Q I r q => q.elim (h.run pins s σ H v x Q I r) (h'.run pins s σ H v x Q I r)⟩
theorem PI.or {tg iter : Expr} {t u : TI} (h : PI X tg iter t) (h' : PI X tg iter u) : PI X tg iter fun σ H R => t σ H R ∨ u σ H R := ⟨fun pins s σ H R I q => q.elim (h.run pins s σ H R I) (h'.run pins s σ H R I)⟩
variable {e e2 c : Expr} {es : List Expr} {fe fk fv : Fe} {ft : Ft} {fi : Fi} {g : Fg} {gs : List D → Ev → Option Ev} {pos pos' : PySem.Pos} {st : Stmt} {rest body : List Stmt} {w w1 w2 : List Nat} {f f1 f2 : Fs} {x : Str}
theorem as_set (i : Nat) {x : Str} (he : AE X e fe) (hN : X.N.Nodup) (hi : X.N[i]? = some x := by rfl) (hx : Loc X.env.scope x := by first | exact Or.inl rfl | exact Or.inr rfl) (hs : swapsWith e (some (.Name x pos')) pos.line X.env = pure false := by rfl)
    (hf : X.fn x = true ∨ X.env.scope.names.lookup x = some .local := by first | exact .inl rfl | exact .inr rfl) : AS X (.Assign [.Name x pos'] e pos) [i] (mSet i fe) := PS.mono (ps_set hN hi hx he hs hf) fun D σ H q => set_of q
theorem as_ret (he : AE X e fe) : AS X (.Return (some e) pos) w (mRet fe) := PS.mono (ps_ret he) fun D σ H q => ret_of q
theorem as_ex (he : AE X e fe) (hs : swapsWith e none pos.line X.env = pure false := by rfl) : AS X (.Expr e pos) w (mEx fe) := PS.mono (ps_expr he hs) fun D σ H q => ex_of q
theorem as_bk : AS X (.Break pos) w mBk := PS.mono ps_break fun D σ H q => by
  obtain ⟨Z, E, R, s, fl, E', e, q⟩ := q
  cases e
  exact q σ Z H R s .refl fun _ _ => rfl
theorem as_ct : AS X (.Continue pos) w mCt := PS.mono ps_continue fun D σ H q => by
  obtain ⟨Z, E, R, s, fl, E', e, q⟩ := q
  cases e
  exact q σ Z H R s .refl fun _ _ => rfl
theorem ass_nil : ASs X [] w mNx := PSs.mono pss_nil fun D σ H q => by
  obtain ⟨Z, E, R, s, fl, E', e, q⟩ := q
  cases e
  exact q σ Z H R s .refl fun _ _ => rfl
theorem ass_cons (h1 : AS X st w1 f1) (h2 : ASs X rest w2 f2) : ASs X (st :: rest) (w1 ++ w2) (mSeq f1 f2) := PSs.mono (pss_cons h1 h2) fun D σ H q => seq_of (fun i m => List.mem_append.mpr (.inl m)) (fun i m => List.mem_append.mpr (.inr m)) q
theorem ass_one (h1 : AS X st w f) : ASs X [st] w f := pss_one h1
theorem as_if (hc : AT X c ft) (ha : ASs X body w1 f1) (hb : ASs X rest w2 f2) : AS X (.If c body rest pos) (w1 ++ w2) (mIfS ft f1 f2) := PS.mono (ps_if hc ha hb) fun D σ H q => if_of (fun i m => List.mem_append.mpr (.inl m)) (fun i m => List.mem_append.mpr (.inr m)) q
theorem as_while (hp : PassesOwn (model X.prog X.w) X.A X.env X.xe) (hc : AT X c ft) (hb : ASs X body w f) : AS X (.While c body [] pos) w (mWhile ft f) := PS.mono (ps_while hp hc hb) fun D σ H q => while_of q
abbrev AG (X : Cx) (target : Expr) (w : List Nat) (g : Fg) : Prop := PG X target (gOf X.K w g)
abbrev AGs (X : Cx) (ts : List Expr) (w : List Nat) (gs : List D → Ev → Option Ev) : Prop := PGs X ts (gsOf X.K w gs)
theorem PG.mono {t : Expr} {g g' : TG} (h : PG X t g) (m : ∀ v σ H Q, g' v σ H Q → g v σ H Q) : PG X t g' := ⟨fun pins s σ H v u Q I r q => h.run pins s σ H v u Q I r (m v σ H Q q)⟩
theorem PGs.mono {t : List Expr} {g g' : TGs} (h : PGs X t g) (m : ∀ v σ H Q, g' v σ H Q → g v σ H Q) : PGs X t g' := ⟨fun pins s σ H v u Q I r q => h.run pins s σ H v u Q I r (m v σ H Q q)⟩
theorem ag_n (i : Nat) {x : Str} (hN : X.N.Nodup) (hi : X.N[i]? = some x := by rfl) (hx : Loc X.env.scope x := by first | exact Or.inl rfl | exact Or.inr rfl) (hf : X.fn x = true ∨ X.env.scope.names.lookup x = some .local := by first | exact .inl rfl | exact .inr rfl) :
    AG X (.Name x pos) [i] (tgV i) := PG.mono (pg_name hN hi hx hf) fun v σ H Q q => gn_of q
theorem ags_nil : AGs X [] [] tgN := PGs.mono pgs_nil fun v σ H Q q => gnil_of q
theorem ags_cons (h1 : AG X e w1 g) (h2 : AGs X es w2 gs) (hs : (assignEach (e :: es) X.env).map (·.2) = assign e X.env :: (assignEach es X.env).map (·.2) := by rfl) : AGs X (e :: es) (w1 ++ w2) (tgC g gs) :=
  PGs.mono (pgs_cons h1 h2 hs) fun v σ H Q q => gcons_of (fun i m => List.mem_append.mpr (.inl m)) (fun i m => List.mem_append.mpr (.inr m)) q
theorem ag_t {k n : Nat} (h : AGs X es w gs) (hc : X.calm = true := by rfl) (hn : (assignEach es X.env).length = n := by rfl) (hst : (assignEach es X.env).findIdx? (·.1) = none := by rfl) : AG X (.Tuple es k pos) w (tgT n gs) :=
  PG.mono (PG.or (pg_tup hc h hn hst) (pg_unl hc h hn hst)) fun v σ H Q q => gt_of q
theorem as_asg {tg : Expr} (he : AE X e fe) (hg : AG X tg w g) (hs : swapsWithSole [tg] e pos.line X.env = pure false := by rfl) (hw : swappedStores [tg] e X.env = pure none := by rfl)
    (h1 : (assignEach [tg] X.env).map (·.2) = [assign tg X.env] := by rfl) : AS X (.Assign [tg] e pos) w (mAsg g fe) := PS.mono (ps_asg he hg hs hw h1) fun D σ H q => asg_of q
theorem as_for {tg iter : Expr} (hp : PassesOwn (model X.prog X.w) X.A X.env X.xe) (hi : AI X tg iter fi) (hg : AG X tg w1 g) (hb : ASs X body w2 f) (hc : X.calm = true := by rfl) (hs : ∀ x, foldedSetIterable iter X.env x = pure x := by intro _; rfl) :
    AS X (.For tg iter body [] pos) (w1 ++ w2) (mFor fi g f) := PS.mono (ps_for hp hc hi hg hb hs) fun D σ H q => for_of (fun i m => List.mem_append.mpr (.inl m)) (fun i m => List.mem_append.mpr (.inr m)) q
theorem ai_seq {tg : Expr} (he : AE X e fe) : AI X tg e (mSq fe) := PI.mono (PI.or (pi_list he) (pi_tup he)) fun σ H R q => sq_of q
theorem ai_rg1 {tg : Expr} {p : PySem.Pos} (ha : AE X e fe) (hg : Gl X "range") (hm : X.mg "range" = none) (hs : starEach [e] X.env = [(false, eval e X.env)] := by rfl) : AI X tg (.Call (.Name "range" p) [e] [] pos) (mRg1 fe) :=
  PI.mono (pi_range1 hg hm (pa_cons ha pa_nil hs) hs) fun σ H R q => eOf_imp (fun v H1 ⟨j, e, a, b, c⟩ => ⟨j, by rw [e], a, b, c⟩) (rg1_of q)
theorem ai_rg2 {tg : Expr} {p : PySem.Pos} (ha : AE X e fe) (hb : AE X e2 fk) (hg : Gl X "range") (hm : X.mg "range" = none) (hs : starEach [e, e2] X.env = [(false, eval e X.env), (false, eval e2 X.env)] := by rfl) (hs2 : starEach [e2] X.env = [(false, eval e2 X.env)] := by rfl) :
    AI X tg (.Call (.Name "range" p) [e, e2] [] pos) (mRg2 fe fk) :=
  PI.mono (pi_range2 hg hm (pa_cons ha (pa_cons hb pa_nil hs2) (by rw [hs, hs2])) hs hs2) fun σ H R q => eOf_imp (fun v H1 q => eOf_imp (fun u H2 ⟨i, j, e1, e2, a, b⟩ => ⟨i, j, by rw [e1, e2], a, b⟩) q) (rg2_of q)
theorem as_put (j : Nat) {x : Str} {px pt : PySem.Pos} (hu : X.A.units + 1 < cLine) (hk : AE X e fk) (hv : AE X e2 fv) (hN : X.N[j]? = some x := by rfl) (hvis : Vis X.env.scope x := by first | exact Or.inl rfl | exact Or.inr (Or.inl rfl) | exact Or.inr (Or.inr rfl))
    (hd : (x == ("__debug__" : Str)) = false := by decide) (hcd : (x == ("__classdict__" : Str)) = false := by decide)
    (ha : ∀ v, assign (.Subscript (.Name x px) e pt) X.env v = (do
      let ov ← holding [v] (eval (.Name x px) X.env)
      let iv ← holding [v, ov] (eval e X.env)
      standAt pt
      holding [v, ov, iv] (setItem ov iv v)
      release [v, ov, iv] []) := by intro _; rfl)
    (hs : swapsWithSole [.Subscript (.Name x px) e pt] e2 pos.line X.env = pure false := by rfl) (hw : swappedStores [.Subscript (.Name x px) e pt] e2 X.env = pure none := by rfl)
    (h1 : (assignEach [.Subscript (.Name x px) e pt] X.env).map (·.2) = [assign (.Subscript (.Name x px) e pt) X.env] := by rfl) : AS X (.Assign [.Subscript (.Name x px) e pt] e2 pos) w (mPut j fk fv) :=
  PS.mono (ps_asg hv (pg_sub (pe_var hN hvis hd hcd) hk (PSet.or set_list (set_dict hu)) ha) hs hw h1) fun D σ H q => put_of q
end
end Zk
namespace Zk
open PySem PySem.Spec PyProof.Rows L2

/-- a def by data: from the arguments its end, how deep it is new, and the changed argument behind it -/
abbrev Mir := List D → Option (D × Nat × D)
section
variable {K : PySem.W.Frag} {Z Z' Zf Z0 : Addr → Prop} {H H' H0 : Hp} {σ : L2.St} {E E' : Ev} {R R' R0 : Rs}
/-- the promise: the argument at io may be changed (it is flat, and ours), the others are frozen -/
def spM (K : PySem.W.Frag) (io : Option Nat) (np : Nat) (M : Mir) : Sp := fun vs H Q _ => ∃ (Z : Addr → Prop) (ds : List D) (rs : Rs), vs.length = np ∧ ds.length = np ∧ (∀ a, Z a → H a ≠ none) ∧
  (∀ i v d, vs[i]? = some v → ds[i]? = some d → if io = some i then flat d = true ∧ Own K Z H 1 v d (rs i) else Rp K Z H v d) ∧ (∀ i, (io = some i → np ≤ i) → rs i = []) ∧ (∀ i, (rs i).Nodup) ∧
  ∃ d n out, M ds = some (d, n, out) ∧ ∀ v Z' H' rs' rr, Step Z H (ow rs) Z' H' (ow rs') → (∀ a, Z' a → H' a ≠ none) →
    (∀ i w, io = some i → vs[i]? = some w → flat out = true ∧ Own K Z' H' 1 w out (rs' i)) → (∀ i, io ≠ some i → rs' i = []) → (∀ i, (rs' i).Nodup) → Own K Z' H' n v d rr → Fr rs H rs' rr → Q v H'
/-- the slots at the entry -/
def ent (io : Option Nat) : Nat → List D → Ev
  | _, [] => []
  | i, d :: ds => some (d, if io = some i then 1 else 0) :: ent io (i + 1) ds
theorem ent_len (io : Option Nat) : ∀ (i : Nat) (ds : List D), (ent io i ds).length = ds.length
  | _, [] => rfl
  | i, d :: ds => by simp [ent, ent_len io (i + 1) ds]
theorem ent_get (io : Option Nat) : ∀ (i : Nat) (ds : List D) (j : Nat), (ent io i ds)[j]? = (ds[j]?).map fun d => some (d, if io = some (i + j) then 1 else 0)
  | _, [], j => by simp [ent]
  | i, d :: ds, 0 => by simp [ent]
  | i, d :: ds, j + 1 => by
    simp only [ent, List.getElem?_cons_succ]
    rw [ent_get io (i + 1) ds j]
    have e : i + 1 + j = i + (j + 1) := by omega
    rw [e]
def ent0 (io : Option Nat) (N : Nat) (ds : List D) : Ev := ent io 0 ds ++ List.replicate (N - ds.length) none
/-- what stands at the changed slot -/
def outAt (io : Option Nat) (E : Ev) : Option D := match io with
  | none => some .non
  | some i => match eg E i with
    | some (d, n + 1) => if flat d = true then some d else none
    | _ => none
def mDef (io : Option Nat) (N : Nat) (f : Fs) : Mir := fun ds => (f (ent0 io N ds)).bind fun p => match p.1 with
  | .nx => (outAt io p.2).map fun o => (.non, 9, o)
  | .rt d n => (outAt io p.2).map fun o => (d, n, o)
  | _ => none
theorem Own.flatTo {n m : Nat} {v : V} {d : D} {rs : List Addr} (f : flat d = true) (h : Own K Z H (n + 1) v d rs) (nz : ∀ a ∈ rs, ¬ Z' a) : Own K Z' H (m + 1) v d rs := by
  have tp : ∀ a o, H a = some o → ¬ Mut (some o) → H a = some o := fun _ _ h _ => h
  cases d with
  | lst ds =>
    have i : imms ds = true := by simpa [flat] using f
    obtain ⟨a, vs, rss, e, ha, z, al, er⟩ := h
    obtain ⟨r, e2⟩ := al.immRps i
    subst er
    exact ⟨a, vs, _, e, ha, nz a List.mem_cons_self, All3.ofRpsI (r.immz tp i) i, by rw [e2, flat_nils]⟩
  | dK ds =>
    have i : imms (ds.map (·.2)) = true := by simpa [flat] using f
    obtain ⟨a, vs, rss, e, ha, z, e1, al, er⟩ := h
    obtain ⟨r, e2⟩ := al.immRps i
    subst er
    exact ⟨a, vs, _, e, ha, nz a List.mem_cons_self, e1, All3.ofRpsI (r.immz tp i) i, by rw [e2, flat_nils]⟩
  | dT ds =>
    have i : imms (ds.map (·.2)) = true := by simpa [flat] using f
    obtain ⟨a, vs, rss, e, ha, z, e1, al, er⟩ := h
    obtain ⟨r, e2⟩ := al.immRps i
    subst er
    exact ⟨a, vs, _, e, ha, nz a List.mem_cons_self, e1, All3.ofRpsI (r.immz tp i) i, by rw [e2, flat_nils]⟩
  | set xs =>
    obtain ⟨a, T, k, e, ha, z, e1, e2, e3, er⟩ := h
    subst er
    exact ⟨a, T, k, e, ha, nz a (by simp), e1, e2, e3, rfl⟩
  | _ => simp [flat] at f
/-- a def's body: its promise -/
theorem body_of {io : Option Nat} {N : List Str} {w : List Nat} {f : Fs} {vs : List V} {np : Nat} {Q : VK} {X : XK} (hN : np ≤ N.length) (hio : ∀ i, io = some i → i ∉ w) (q : spM K io np (mDef io N.length f) vs H Q X) :
    sOf K w f { nx := fun _ H' => Q .non H', rt := Q } (L2.start N vs) H := by
  obtain ⟨Z, ds, rs, lv, ld, hz, args, rn, rnd, d, n, out, e, q⟩ := q
  have st : ∀ i, (L2.start N vs)[i]? = if i < np then (vs[i]?).map some else if i < N.length then some none else none := fun i => by
    unfold L2.start
    by_cases h : i < np
    · rw [if_pos h, List.getElem?_append_left (by simp; omega), List.getElem?_map]
    · rw [if_neg h, List.getElem?_append_right (by simp; omega), List.getElem?_replicate]
      simp only [List.length_map]
      split <;> split <;> first | rfl | omega
  have se : ∀ i, eg (ent0 io N.length ds) i = (ds[i]?).map fun d => (d, if io = some i then 1 else 0) := fun i => by
    unfold eg ent0
    by_cases h : i < ds.length
    · rw [List.getElem?_append_left (by rw [ent_len]; exact h), ent_get]
      cases ds[i]? <;> simp
    · rw [List.getElem?_append_right (by rw [ent_len]; omega), List.getElem?_replicate, List.getElem?_eq_none (by omega)]
      split <;> rfl
  have s : S K Z H (L2.start N vs) (ent0 io N.length ds) rs := by
    refine ⟨?_, fun i d n e => ?_, fun i e => ?_, rnd, fun i j a h1 h2 => ?_, hz⟩
    · unfold L2.start ent0
      simp [ent_len, lv, ld]
    · rw [se] at e
      cases g : ds[i]? with
      | none => rw [g] at e; cases e
      | some d' =>
        rw [g] at e
        cases e
        have hi : i < np := by have := (List.getElem?_eq_some_iff.mp g).1; omega
        have hv : i < vs.length := by omega
        refine ⟨vs[i], by rw [st, if_pos hi, List.getElem?_eq_getElem hv]; rfl, ?_⟩
        have a := args i vs[i] _ (List.getElem?_eq_getElem hv) g
        by_cases c : io = some i
        · rw [if_pos c] at a ⊢; exact a.2
        · rw [if_neg c] at a ⊢; exact ⟨rn i (fun z => absurd z c), a⟩
    · by_cases c : io = some i
      · rw [se] at e
        cases g : ds[i]? with
        | some d' => rw [g] at e; cases e
        | none =>
          have hi : ¬ i < np := by
            intro h
            rw [List.getElem?_eq_getElem (by omega)] at g; cases g
          exact rn i fun _ => by omega
      · exact rn i fun z => absurd z c
    · by_cases c1 : io = some i
      · by_cases c2 : io = some j
        · rw [c1] at c2; exact Option.some.inj c2
        · rw [rn j (fun z => absurd z c2)] at h2; simp at h2
      · rw [rn i (fun z => absurd z c1)] at h1; simp at h1
  unfold mDef at e
  cases e1 : f (ent0 io N.length ds) with
  | none => rw [e1] at e; cases e
  | some p =>
    obtain ⟨fl, E'⟩ := p
    rw [e1] at e
    simp only [Option.bind_some] at e
    refine ⟨Z, _, rs, s, fl, E', e1, fun σ' Z' H' R' s' t' k' => ?_⟩
    have fin : ∀ (d0 : D) (n0 : Nat), (outAt io E').map (fun o => (d0, n0, o)) = some (d, n, out) → ∀ v rr, Own K Z' H' n0 v d0 rr → Fr rs H R' rr → Q v H' := fun d0 n0 e v rr o fr => by
      cases g : outAt io E' with
      | none => rw [g] at e; cases e
      | some o' =>
        rw [g] at e
        cases e
        refine q v Z' H' (fun i => if io = some i then R' i else []) rr ⟨t'.zz, t'.zn, t'.hh, fun a ⟨i, h⟩ => ?_, t'.dm⟩ s'.zd (fun i w hio' hw => ?_) (fun i hi => if_neg hi) (fun i => ?_) o ⟨fr.nd, fun a m ⟨i, h⟩ => ?_, fr.of⟩
        · simp only at h
          split at h
          · exact t'.on a ⟨i, h⟩
          · simp at h
        · subst hio'
          simp only [outAt] at g
          cases g2 : eg E' i with
          | none => rw [g2] at g; cases g
          | some dn =>
            obtain ⟨d1, n1⟩ := dn
            cases n1 with
            | zero => rw [g2] at g; cases g
            | succ n1 =>
              rw [g2] at g
              simp only at g
              split at g
              · rename_i hf
                cases g
                obtain ⟨u, hu, ou⟩ := s'.slot i _ _ g2
                have hi : i < vs.length := (List.getElem?_eq_some_iff.mp hw).1
                rw [k' i (hio i rfl), st, if_pos (by omega), hw] at hu
                cases hu
                rw [if_pos rfl]
                exact ⟨hf, ou.flatTo hf fun a m => (ou.mut a m).2⟩
              · cases g
        · split
          · exact s'.nd i
          · exact List.nodup_nil
        · simp only at h
          split at h
          · exact fr.no a m ⟨i, h⟩
          · simp at h
    cases fl with
    | nx => exact fin _ _ e .non [] (Own.ofImm .non (by simp)) .nil
    | rt d0 n0 => exact fin _ _ e
    | bk => cases e
    | ct => cases e
end
end Zk
namespace Zk
open PySem PySem.Spec PyProof.Rows L2

def isSlot (j : Nat) : Op → Bool
  | .slot i => i == j
  | _ => false
def dem1 (E : Ev) : Op → Ev
  | .slot j => match eg E j with
    | some (d, _) => if imm d = true then E else E.set j (some (d, 0))
    | none => E
  | _ => E
def dem (E : Ev) (os : List Op) : Ev := os.foldl dem1 E
def flAt (E : Ev) (j : Nat) : Option Nat := match eg E j with
  | some (d, n + 1) => if flat d = true then some (n + 1) else none
  | _ => none
def mCall (io : Option Nat) (M : Mir) (fa : Fa) : Fe := fun E => (fa E).bind fun p => (rdL p.2 p.1).bind fun ds => (M ds).bind fun r => match io with
  | none => if imm r.1 = true then some (.val r.1 9, p.2) else some (.val r.1 r.2.1, dem p.2 p.1)
  | some i => match p.1[i]? with
    | some (.slot j) => (flAt p.2 j).bind fun n => if (p.1.eraseIdx i).all (fun o => !isSlot j o) = true then
        (if imm r.1 = true then some (.val r.1 9, p.2.set j (some (r.2.2, n))) else some (.val r.1 r.2.1, (dem p.2 (p.1.eraseIdx i)).set j (some (r.2.2, n)))) else none
    | _ => none
section
variable {K : PySem.W.Frag} {Z Z' Zf Z0 Z1 : Addr → Prop} {H H' H0 H1 : Hp} {σ : L2.St} {E E' E1 : Ev} {R R' R0 R1 : Rs}
theorem rdL_get : ∀ {os : List Op} {ds : List D}, rdL E os = some ds → ds.length = os.length ∧ ∀ {i : Nat} {o : Op}, os[i]? = some o → ∃ d, ds[i]? = some d ∧ rd E o = some d
  | [], ds, h => by
    cases h
    exact ⟨rfl, fun h => by simp at h⟩
  | o :: os, ds, h => by
    simp only [rdL] at h
    cases q : rd E o with
    | none => rw [q] at h; cases h
    | some d =>
      rw [q] at h
      cases q2 : rdL E os with
      | none => rw [q2] at h; cases h
      | some es =>
        rw [q2] at h
        cases h
        obtain ⟨l, g⟩ := rdL_get q2
        refine ⟨by simp [l], fun {i o'} h => ?_⟩
        cases i with
        | zero => simp at h; subst h; exact ⟨d, rfl, q⟩
        | succ i => obtain ⟨d', h1, h2⟩ := g (i := i) (o := o') (by simpa using h); exact ⟨d', by simpa using h1, h2⟩
/-- the call, where the end is unchangeable or no slot that is given owns anything -/
theorem S.call (s : S K Z1 H1 σ E1 R1) (t1 : Step Z H (ow R) Z1 H1 (ow R1)) {vs : List V} {os : List Op} {rss : List (List Addr)} {ds : List D} (args : All3 (OV K Z1 H1 σ) vs os rss) (fr : Fr R H R1 rss.flatten) (hd : rdL E1 os = some ds)
    {io : Option Nat} {j n0 : Nat} (hio : ∀ i, io = some i → os[i]? = some (.slot j) ∧ flAt E1 j = some n0 ∧ ∀ p o, p ≠ i → os[p]? = some o → o ≠ .slot j) {M : Mir} {d : D} {n : Nat} {out : D} (hM : M ds = some (d, n, out))
    (hc : imm d = true ∨ ∀ p k, io ≠ some p → os[p]? = some (.slot k) → R1 k = []) {Q : VK} {X : XK}
    (q : ∀ v Z' H' R' rs, S K Z' H' σ (if io = none then E1 else E1.set j (some (out, n0))) R' → Step Z H (ow R) Z' H' (ow R') → Own K Z' H' n v d rs → Fr R H R' rs → Q v H') : spM K io os.length M vs H1 Q X := by
  have lens := args.len
  obtain ⟨ld, gd⟩ := rdL_get hd
  -- what is lent
  let bo : Addr → Prop := fun a => ∃ p k, io ≠ some p ∧ os[p]? = some (.slot k) ∧ a ∈ R1 k
  have boow : ∀ a, bo a → ow R1 a := fun a ⟨p, k, _, _, m⟩ => ⟨k, m⟩
  let Zp : Addr → Prop := fun a => Z1 a ∨ bo a ∨ a ∈ rss.flatten
  have pp : Pers Z1 H1 Zp H1 := ⟨fun _ h => .inl h, fun _ _ _ h => h, fun _ _ h _ => h⟩
  have rth : ∀ a ∈ rss.flatten, H1 a ≠ none := by
    clear hd gd ld hio hc lens fr
    revert bo Zp
    intro bo boow Zp pp
    clear boow pp
    induction args with
    | nil => intro a m; simp at m
    | cons h t ih =>
      intro a m
      rw [List.flatten_cons, List.mem_append] at m
      rcases m with m | m
      · exact OV.there h a m
      · exact ih a m
  let rs0 : Rs := fun k => if io = some k ∧ k < os.length then R1 j else []
  have rs0ow : ∀ a, ow rs0 a → io ≠ none ∧ a ∈ R1 j := fun a ⟨k, m⟩ => by
    simp only [rs0] at m
    split at m
    · rename_i h
      exact ⟨by rw [h.1]; simp, m⟩
    · simp at m
  refine ⟨Zp, ds, rs0, by rw [lens.1], ld, fun a z => ?_, fun i v dd hv hdd => ?_, fun i hi => ?_, fun i => ?_, d, n, out, hM, fun v Z' H' rs' rr t2 zd' hout rs'n rs'nd o f2 => ?_⟩
  · rcases z with z | z | z
    · exact s.zd a z
    · exact s.there (boow a z)
    · exact rth a z
  · have hio' : i < os.length := by rw [← ld]; exact (List.getElem?_eq_some_iff.mp hdd).1
    obtain ⟨v', rsi, h1, h2, ovi⟩ := args.get (List.getElem?_eq_getElem hio')
    rw [hv] at h1
    cases h1
    obtain ⟨d', h3, h4⟩ := gd (List.getElem?_eq_getElem hio')
    rw [hdd] at h3
    cases h3
    by_cases c : io = some i
    · rw [if_pos c]
      obtain ⟨g1, g2, g3⟩ := hio i c
      rw [List.getElem?_eq_getElem hio'] at g1
      have eo := Option.some.inj g1
      rw [eo] at ovi h4
      unfold flAt at g2
      cases g : eg E1 j with
      | none => rw [g] at g2; cases g2
      | some dn =>
        obtain ⟨d1, n1⟩ := dn
        cases n1 with
        | zero => rw [g] at g2; cases g2
        | succ n1 =>
          rw [g] at g2
          simp only at g2
          split at g2
          · rename_i hf
            simp only [Zk.rd, g, Option.map_some, Option.some.injEq] at h4
            subst h4
            obtain ⟨u, hu, ou⟩ := s.slot j _ _ g
            rw [ovi.1] at hu
            cases hu
            refine ⟨hf, ?_⟩
            have e0 : rs0 i = R1 j := if_pos ⟨c, hio'⟩
            rw [e0]
            refine ou.flatTo hf fun a m z => ?_
            rcases z with z | ⟨p, k, hp, hk, mk⟩ | z
            · exact (ou.mut a m).2 z
            · have ek := s.dj j k a m mk
              subst ek
              exact g3 p _ (fun e => hp (by rw [c, e])) hk rfl
            · exact fr.no a z ⟨j, m⟩
          · cases g2
    · rw [if_neg c]
      cases ho : os[i] with
      | slot k =>
        rw [ho] at ovi h4
        simp only [Zk.rd] at h4
        cases g : eg E1 k with
        | none => rw [g] at h4; cases h4
        | some dn =>
          rw [g] at h4
          cases h4
          obtain ⟨u, hu, ou⟩ := s.slot k _ _ g
          rw [ovi.1] at hu
          cases hu
          exact ou.freeze pp fun a m => ⟨rfl, .inr (.inl ⟨i, k, c, by rw [List.getElem?_eq_getElem hio', ho], m⟩)⟩
      | val d2 n2 =>
        rw [ho] at ovi h4
        cases h4
        exact Own.freeze pp (fun a m => ⟨rfl, .inr (.inr (mem_flatten_of (List.mem_of_getElem? h2) m))⟩) ovi
  · exact if_neg fun h => by
      have := hi h.1
      omega
  · simp only [rs0]
    split
    · exact s.nd j
    · exact List.nodup_nil
  -- behind the call
  have bo0 : (imm d = true) ∨ ∀ a, ¬ bo a := hc.imp id fun h a ⟨p, k, h1, h2, m⟩ => by
    rw [h p k h1 h2] at m; simp at m
  let Z2 : Addr → Prop := fun a => Z' a ∧ ¬ bo a
  have rs0R : ∀ a, ow rs0 a → ow R1 a := fun a h => ⟨j, (rs0ow a h).2⟩
  have same : ∀ a, (∃ o, H1 a = some o) → ¬ ow rs0 a → H' a = H1 a := fun a ⟨o, ho⟩ h => by rw [ho]; exact t2.hh a o ho h
  have tp : ∀ a o, H1 a = some o → ¬ Mut (some o) → H' a = some o := fun a o ho hm => t2.hh a o ho fun h => hm (by have := (s.owns (rs0R a h)).1; rw [ho] at this; exact this)
  have p2 : Pers Z1 H1 Z2 H' := ⟨fun a z => ⟨t2.zz a (.inl z), fun b => (s.owns (boow a b)).2 z⟩, fun a o z ho => t2.hh a o ho fun h => (s.owns (rs0R a h)).2 z, tp⟩
  have z2no : ∀ a, ow R1 a → ¬ ow rs0 a → ¬ Z2 a := fun a h h0 z => by
    rcases t2.zn a z.1 with (y | y | y) | y | y
    · exact (s.owns h).2 y
    · exact z.2 y
    · exact fr.no a y h
    · exact s.there h y
    · exact h0 y
  let R2 : Rs := fun k => if io ≠ none ∧ k = j then rs' (io.getD 0) else R1 k
  have ow2 : ∀ a, ow R2 a → ow R1 a ∨ ow rs' a := fun a ⟨k, m⟩ => by
    simp only [R2] at m
    split at m
    · exact .inr ⟨_, m⟩
    · exact .inl ⟨k, m⟩
  have rs'on : ∀ a, ow rs' a → ow rs0 a ∨ H1 a = none := t2.on
  have j0 : ∀ i, io = some i → j < E1.length ∧ ∃ w, σ[j]? = some (some w) ∧ vs[i]? = some w := fun i c => by
    obtain ⟨g1, g2, g3⟩ := hio i c
    unfold flAt at g2
    cases g : eg E1 j with
    | none => rw [g] at g2; cases g2
    | some dn =>
      refine ⟨eg_lt g, ?_⟩
      have hi := (List.getElem?_eq_some_iff.mp g1).1
      obtain ⟨v', rsi, h1, h2, ovi⟩ := args.get g1
      exact ⟨v', ovi.1, h1⟩
  have s2 : S K Z2 H' σ (if io = none then E1 else E1.set j (some (out, n0))) R2 := by
    have old : ∀ k d n, eg E1 k = some (d, n) → (∀ i, io = some i → k ≠ j) → ∃ v, σ[k]? = some (some v) ∧ Own K Z2 H' n v d (R1 k) := fun k d n g hk => by
      obtain ⟨u, hu, ou⟩ := s.slot k d n g
      have nrs : ∀ a ∈ R1 k, ¬ ow rs0 a := fun a m h => by
        obtain ⟨h1, h2⟩ := rs0ow a h
        cases hio2 : io with
        | none => exact h1 hio2
        | some i => exact hk i hio2 (s.dj k j a m h2)
      refine ⟨u, hu, ou.keep p2 fun a m => ⟨same a ?_ (nrs a m), z2no a ⟨k, m⟩ (nrs a m)⟩⟩
      cases hh : H1 a with
      | none => exact absurd hh (s.there ⟨k, m⟩)
      | some o => exact ⟨o, rfl⟩
    cases hio2 : io with
    | none =>
      rw [if_pos rfl]
      have eR : R2 = R1 := by funext k; exact if_neg fun h => h.1 hio2
      rw [eR]
      exact ⟨s.len, fun k d n g => old k d n g (fun i e => by rw [hio2] at e; cases e), s.emp, s.nd, s.dj, fun a z => zd' a z.1⟩
    | some i =>
      rw [if_neg (by simp)]
      obtain ⟨hj, w, hw, hvw⟩ := j0 i hio2
      obtain ⟨fo, oo⟩ := hout i w hio2 hvw
      have eR : R2 = put R1 j (rs' i) := by
        funext k
        simp only [R2, hio2, put, Option.getD_some]
        by_cases c : k = j <;> simp [c]
      have nR : ∀ a ∈ rs' i, ∀ k, k ≠ j → a ∉ R1 k := fun a m k hk mk => by
        rcases rs'on a ⟨i, m⟩ with h | h
        · exact hk (s.dj k j a mk (rs0ow a h).2)
        · exact s.there ⟨k, mk⟩ h
      rw [eR]
      refine ⟨by simp [s.len], fun k d n g => ?_, fun k g => ?_, fun k => ?_, fun k l a h1 h2 => ?_, fun a z => zd' a z.1⟩
      · by_cases c : k = j
        · subst c
          rw [eg_set_same hj] at g
          cases g
          refine ⟨w, hw, ?_⟩
          rw [put_same]
          obtain ⟨_, g2, _⟩ := hio i hio2
          have e0 : ∃ n1, n0 = n1 + 1 := by
            unfold flAt at g2
            split at g2
            · split at g2
              · cases g2; exact ⟨_, rfl⟩
              · cases g2
            · cases g2
          obtain ⟨n1, e0⟩ := e0
          rw [e0]
          exact oo.flatTo fo fun a m z => (oo.mut a m).2 z.1
        · rw [eg_set_ne c] at g
          rw [put_ne c]
          exact old k d n g fun _ _ => c
      · by_cases c : k = j
        · subst c; rw [eg_set_same hj] at g; cases g
        · rw [eg_set_ne c] at g; rw [put_ne c]; exact s.emp k g
      · by_cases c : k = j
        · subst c; rw [put_same]; exact rs'nd i
        · rw [put_ne c]; exact s.nd k
      · by_cases c : k = j
        · subst c
          rw [put_same] at h1
          by_cases c2 : l = k
          · exact c2.symm
          · rw [put_ne c2] at h2; exact absurd h2 (nR a h1 l c2)
        · rw [put_ne c] at h1
          by_cases c2 : l = j
          · subst c2; rw [put_same] at h2; exact absurd h1 (nR a h2 k c)
          · rw [put_ne c2] at h2; exact s.dj k l a h1 h2
  have back : ∀ a, H1 a = none → H a = none := fun a h => by
    cases c : H a with
    | none => rfl
    | some o => exact absurd h (t1.dm a (by rw [c]; simp))
  have t3 : Step Z H (ow R) Z2 H' (ow R2) := by
    refine ⟨fun a z => p2.zz a (t1.zz a z), fun a z => ?_, fun a o ho h => ?_, fun a h => ?_, fun a h => t2.dm a (t1.dm a h)⟩
    · rcases t2.zn a z.1 with (y | y | y) | y | y
      · exact t1.zn a y
      · exact absurd y z.2
      · rcases fr.of a y with y | y
        · exact .inr (.inr y)
        · exact .inr (.inl y)
      · exact .inr (.inl (back a y))
      · rcases t1.on a (rs0R a y) with y | y
        · exact .inr (.inr y)
        · exact .inr (.inl y)
    · refine t2.hh a o (t1.hh a o ho h) fun h0 => ?_
      rcases t1.on a (rs0R a h0) with y | y
      · exact h y
      · rw [ho] at y; cases y
    · rcases ow2 a h with y | y
      · exact t1.on a y
      · rcases rs'on a y with y | y
        · exact t1.on a (rs0R a y)
        · exact .inr (back a y)
  have fro : ∀ a ∈ rr, ¬ ow R2 a := fun a m h => by
    rcases ow2 a h with y | y
    · rcases f2.of a m with z | z
      · -- the slot j alone
        obtain ⟨k, mk⟩ := h
        obtain ⟨h1, h2⟩ := rs0ow a z
        simp only [R2] at mk
        split at mk
        · exact f2.no a m ⟨_, mk⟩
        · rename_i hk
          exact hk ⟨h1, s.dj k j a mk h2⟩
      · exact s.there y z
    · exact f2.no a m y
  have frf : ∀ a ∈ rr, ow R a ∨ H a = none := fun a m => by
    rcases f2.of a m with z | z
    · exact t1.on a (rs0R a z)
    · exact .inr (back a z)
  rcases bo0 with hi | hb
  · obtain ⟨rfl, rp⟩ := o.imm hi
    exact q v Z2 H' R2 [] s2 t3 (Own.ofImm (rp.immz (fun _ _ h _ => h) hi) hi) ⟨List.nodup_nil, fun a m => by simp at m, fun a m => by simp at m⟩
  · have eZ : Z2 = Z' := by
      funext a
      simp only [Z2, eq_iff_iff]
      exact ⟨fun h => h.1, fun h => ⟨h, hb a⟩⟩
    rw [eZ] at s2 t3
    exact q v Z' H' R2 rr s2 t3 o ⟨f2.nd, fro, frf⟩

/-- slots that are given are frozen -/
theorem S.demL : ∀ (os : List Op) {Z1 : Addr → Prop} {E1 : Ev} {R1 : Rs}, S K Z1 H1 σ E1 R1 → ∃ Z2 R2, S K Z2 H1 σ (dem E1 os) R2 ∧ Step Z1 H1 (ow R1) Z2 H1 (ow R2) ∧ (∀ k, Op.slot k ∈ os → R2 k = []) ∧ (∀ k, R1 k = [] → R2 k = []) ∧
    (∀ j, Op.slot j ∉ os → eg (dem E1 os) j = eg E1 j) ∧ (∀ o d, rd E1 o = some d → rd (dem E1 os) o = some d)
  | [], Z1, E1, R1, s => ⟨Z1, R1, s, .refl, fun k h => by simp at h, fun _ h => h, fun _ _ => rfl, fun _ _ h => h⟩
  | o :: os, Z1, E1, R1, s => by
    have one : ∃ Z2 R2, S K Z2 H1 σ (dem1 E1 o) R2 ∧ Step Z1 H1 (ow R1) Z2 H1 (ow R2) ∧ (∀ k, o = .slot k → R2 k = []) ∧ (∀ k, R1 k = [] → R2 k = []) ∧ (∀ j, o ≠ .slot j → eg (dem1 E1 o) j = eg E1 j) ∧ (∀ o' d, rd E1 o' = some d → rd (dem1 E1 o) o' = some d) := by
      cases o with
      | val d n => exact ⟨Z1, R1, s, .refl, (fun k h => nomatch h), (fun _ h => h), (fun _ _ => rfl), fun _ _ h => h⟩
      | slot k =>
        cases g : eg E1 k with
        | none =>
          have ed : dem1 E1 (.slot k) = E1 := by simp [dem1, g]
          rw [ed]
          exact ⟨Z1, R1, s, .refl, (fun k' h => by cases h; exact s.emp k g), (fun _ h => h), (fun _ _ => rfl), fun _ _ h => h⟩
        | some dn =>
          obtain ⟨d, n⟩ := dn
          by_cases i : imm d = true
          · have ed : dem1 E1 (.slot k) = E1 := by simp [dem1, g, i]
            rw [ed]
            refine ⟨Z1, R1, s, .refl, (fun k' h => ?_), (fun _ h => h), (fun _ _ => rfl), fun _ _ h => h⟩
            cases h
            obtain ⟨u, _, ou⟩ := s.slot k d n g
            exact (ou.imm i).1
          · have ed : dem1 E1 (.slot k) = E1.set k (some (d, 0)) := by simp [dem1, g, i]
            rw [ed]
            obtain ⟨s1, t1, f1⟩ := s.freeze g
            refine ⟨_, _, s1, t1, (fun k' h => by cases h; exact put_same), (fun k' h => ?_), (fun j hj => eg_set_ne fun e => hj (by rw [e])), fun o' d' h => ?_⟩
            · by_cases c : k' = k
              · subst c; exact put_same
              · rw [put_ne c]; exact h
            · cases o' with
              | val _ _ => exact h
              | slot j =>
                simp only [Zk.rd] at h ⊢
                by_cases c : j = k
                · subst c
                  rw [g] at h
                  rw [eg_set_same (eg_lt g)]
                  exact h
                · rw [eg_set_ne c]; exact h
    obtain ⟨Z2, R2, s2, t2, a2, b2, c2, d2⟩ := one
    obtain ⟨Z3, R3, s3, t3, a3, b3, c3, d3⟩ := S.demL os s2
    refine ⟨Z3, R3, s3, t2.trans t3, fun k h => ?_, fun k h => b3 k (b2 k h), fun j h => ?_, fun o' d h => d3 o' d (d2 o' d h)⟩
    · rcases List.mem_cons.mp h with h | h
      · exact b3 k (a2 k h.symm)
      · exact a3 k h
    · rw [List.mem_cons, not_or] at h
      exact (c3 j h.2).trans (c2 j fun e => h.1 e.symm)
theorem rdL_mono {E E' : Ev} (h : ∀ o d, rd E o = some d → rd E' o = some d) : ∀ {os : List Op} {ds : List D}, rdL E os = some ds → rdL E' os = some ds
  | [], _, e => e
  | o :: os, ds, e => by
    simp only [rdL] at e ⊢
    cases q : rd E o with
    | none => rw [q] at e; cases e
    | some d =>
      rw [q] at e
      cases q2 : rdL E os with
      | none => rw [q2] at e; cases e
      | some es =>
        rw [q2] at e
        rw [h o d q, rdL_mono h q2]
        exact e
theorem call_of {io : Option Nat} {M : Mir} {fa : Fa} {Q : VK} {X : XK} {H : Hp} (q : eOf K (mCall io M fa) σ H Q) : aOf K fa σ H fun vs H1 => spM K io vs.length M vs H1 Q X := by
  obtain ⟨Z, E, R, s, o, E', e, q⟩ := q
  unfold mCall at e
  cases e1 : fa E with
  | none => rw [e1] at e; cases e
  | some p =>
    obtain ⟨os, E1⟩ := p
    rw [e1] at e
    simp only [Option.bind_some] at e
    cases e2 : rdL E1 os with
    | none => rw [e2] at e; cases e
    | some ds =>
      rw [e2] at e
      simp only [Option.bind_some] at e
      cases e3 : M ds with
      | none => rw [e3] at e; cases e
      | some r =>
        obtain ⟨d, n, out⟩ := r
        rw [e3] at e
        simp only [Option.bind_some] at e
        refine ⟨Z, E, R, s, os, E1, e1, fun vs Z1 H1 R1 rss s1 t1 a1 f1 => ?_⟩
        show spM K io vs.length M vs H1 Q X
        rw [a1.len.1]
        -- the arguments behind some are frozen
        have args' : ∀ {Z2 : Addr → Prop} {E2 : Ev} {R2 : Rs}, S K Z2 H1 σ E2 R2 → Step Z1 H1 (ow R1) Z2 H1 (ow R2) → All3 (OV K Z2 H1 σ) vs os rss ∧ Fr R H R2 rss.flatten := fun {Z2 E2 R2} s2 t2 => by
          refine ⟨a1.imp fun v' o' rs' m hh => ?_, ⟨f1.nd, fun a m h => ?_, f1.of⟩⟩
          · cases o' with
            | slot k => exact hh
            | val d' n' => exact (s1.pend t2 hh fun a ma => f1.no a (mem_flatten_of m ma)).1
          · rcases t2.on a h with z | z
            · exact f1.no a m z
            · have : ∀ {vs : List V} {os : List Op} {rss : List (List Addr)}, All3 (OV K Z1 H1 σ) vs os rss → ∀ a ∈ rss.flatten, H1 a ≠ none := by
                intro vs os rss h
                induction h with
                | nil => intro a m; simp at m
                | cons h t ih =>
                  intro a m
                  rw [List.flatten_cons, List.mem_append] at m
                  rcases m with m | m
                  · exact OV.there h a m
                  · exact ih a m
              exact this a1 a m z
        cases io with
        | none =>
          simp only at e
          split at e
          · rename_i hi
            cases e
            refine s1.call (j := 0) (n0 := 0) t1 a1 f1 e2 (fun i h => by cases h) e3 (.inl hi) fun v Z' H' R' rs s' t' o' f' => ?_
            obtain ⟨rfl, rp⟩ := o'.imm hi
            exact q v Z' H' R' [] s' t' (Own.ofImm rp hi) .nil
          · cases e
            obtain ⟨Z2, R2, s2, t2, g2, b2, c2, d2⟩ := s1.demL os
            obtain ⟨a3, f3⟩ := args' s2 t2
            exact s2.call (j := 0) (n0 := 0) (t1.trans t2) a3 f3 (rdL_mono d2 e2) (fun i h => by cases h) e3 (.inr fun p k _ h => g2 k (List.mem_of_getElem? h)) fun v Z' H' R' rs s' t' o' f' => q v Z' H' R' rs s' t' o' f'
        | some i =>
          simp only at e
          split at e
          · rename_i j hj
            cases e4 : flAt E1 j with
            | none => rw [e4] at e; cases e
            | some n0 =>
              rw [e4] at e
              simp only [Option.bind_some] at e
              split at e
              · rename_i hall
                have alone : ∀ p o, p ≠ i → os[p]? = some o → o ≠ .slot j := fun p o hp ho ee => by
                  have m : o ∈ os.eraseIdx i := by
                    rw [List.mem_eraseIdx_iff_getElem?]
                    exact ⟨p, hp, ho⟩
                  have := List.all_eq_true.mp hall o m
                  rw [ee] at this
                  simp [isSlot] at this
                split at e
                · rename_i hi
                  cases e
                  refine s1.call (j := j) (n0 := n0) t1 a1 f1 e2 (fun i' h => by cases h; exact ⟨hj, e4, alone⟩) e3 (.inl hi) fun v Z' H' R' rs s' t' o' f' => ?_
                  obtain ⟨rfl, rp⟩ := o'.imm hi
                  exact q v Z' H' R' [] (by simpa using s') t' (Own.ofImm rp hi) .nil
                · cases e
                  obtain ⟨Z2, R2, s2, t2, g2, b2, c2, d2⟩ := s1.demL (os.eraseIdx i)
                  obtain ⟨a3, f3⟩ := args' s2 t2
                  have nj : Op.slot j ∉ os.eraseIdx i := fun m => by
                    have := List.all_eq_true.mp hall _ m
                    simp [isSlot] at this
                  refine s2.call (j := j) (n0 := n0) (t1.trans t2) a3 f3 (rdL_mono d2 e2) (fun i' h => by
                    cases h
                    refine ⟨hj, ?_, alone⟩
                    unfold flAt at e4 ⊢
                    rw [c2 j nj]; exact e4) e3 (.inr fun p k hp h => g2 k ?_) fun v Z' H' R' rs s' t' o' f' => q v Z' H' R' rs (by simpa using s') t' o' f'
                  rw [List.mem_eraseIdx_iff_getElem?]
                  exact ⟨p, fun e => hp (by rw [e]), h⟩
              · cases e
          · cases e
end
section
variable {P : Program} {w : World} {K : PySem.W.Frag} {mg : Str → Option Value} {base : Heap}
theorem spM_len {io : Option Nat} {np : Nat} {M : Mir} {vs : List V} {H : Hp} {Q : VK} {X : XK} (h : spM K io np M vs H Q X) : vs.length = np := by
  obtain ⟨_, _, _, h, _⟩ := h
  exact h
/-- a def of the text keeps the promise of its mirror -/
theorem _root_.L2.Fun.zk {x qual : Str} {st : Stmt} {f : Addr} {fd : FuncData} {N ps : List Str} {k : Nat} {wr : List Nat} {fs : Fs} (F : Fun K x qual st f fd) (Sc : FnScope N ps (defScope st)) (io : Option Nat) (hN : ps.length ≤ N.length) (hio : ∀ i, io = some i → i ∉ wr)
    (hb : ∀ (cdv : Value) (A : Around) (outer : List Env) (s : Shared) (H : Hp) (E : XK), Room k (A.deeper (envOfC qual (defScope st) s.heap.objs.size f cdv)) →
      ASs (cxOf CX0 P w K mg base N qual (defScope st) f cdv A outer s H E).nox (defBody st) wr fs) : FnOk P w K mg base CX0 (k + 1) f fd ps (spM K io ps.length (mDef io N.length fs)) :=
  F.ok Sc (fun vs H Q E h => spM_len h) fun cdv A outer s H vs Q E hr h => ⟨_, hb cdv A outer s H E hr, body_of hN hio h⟩
theorem Room.u65 {k : Nat} {A : Around} (hr : Room k A) : A.units + 65 < cLine := by have := hr.un; omega
variable {X : Cx} {k : Nat} {f : Addr} {fd : FuncData} {ps : List Str} {x : Str} {p pos : PySem.Pos} {e : Expr} {es : List Expr} {fa : Fa} {M : Mir} {io : Option Nat}
theorem PA.len {t : TA} (h : PA X es t) : True := trivial
/-- f(e, ..) -/
theorem ae_call {np : Nat} (F : FnOk X.prog X.w X.K X.mg X.base CX0 k f fd ps (spM X.K io np M)) (hr : Room k X.A) (hg : Gl X x) (hm : X.mg x = some (.ref f)) (hk : PySem.W.keepIn X.K (.ref f) = true) (hb : Binds X.K fd ps []) (ha : AA X (e :: es) fa)
    (hnp : ∀ E os E', fa E = some (os, E') → os.length = np) (hdb : (x == ("__debug__" : Str)) = false := by decide) (he : starEach (e :: es) X.env = (false, eval e X.env) :: starEach es X.env := by rfl) (hpl : (backTo pos (starEach es X.env)).any (·.1) = false := by rfl) :
    AE X (.Call (.Name x p) (e :: es) [] pos) (mCall io M fa) := PE.mono (pe_call F hr hg hm hk hb .nil pass0 ha hdb he hpl) fun σ H Q q => by
  obtain ⟨Z, E, R, s, os, E', e1, q⟩ := call_of (X := E0) q
  refine ⟨Z, E, R, s, os, E', e1, fun vs Z' H' R' rss s' t' a' f' => ?_⟩
  have h : spM X.K io vs.length M vs H' Q E0 := q vs Z' H' R' rss s' t' a' f'
  show spM X.K io np M (vs ++ []) H' Q E0
  rw [List.append_nil]
  rw [a'.len.1, hnp E os E' e1] at h
  exact h
theorem np0 : ∀ E os E', mA0 E = some (os, E') → os.length = 0 := fun E os E' h => by cases h; rfl
theorem npc {a : Fe} {b : Fa} {n : Nat} (h : ∀ E os E', b E = some (os, E') → os.length = n) : ∀ E os E', mAc a b E = some (os, E') → os.length = n + 1 := fun E os E' e => by
  unfold mAc at e
  cases e1 : a E with
  | none => rw [e1] at e; cases e
  | some p =>
    rw [e1] at e
    simp only [Option.bind_some] at e
    cases e2 : b p.2 with
    | none => rw [e2] at e; cases e
    | some q =>
      rw [e2] at e
      cases e
      simp [h p.2 q.1 q.2 e2]
end
end Zk
namespace Zk
open PySem PySem.Spec PyProof.Rows L2

section
variable {K : PySem.W.Frag} {Z Z' Zf Z0 Z1 : Addr → Prop} {H H' H0 H1 : Hp} {σ σ' : L2.St} {E E' E1 : Ev} {R R' R0 R1 : Rs}
def wipeE (E : Ev) : List Nat → Ev
  | [] => E
  | i :: is => wipeE (E.set i none) is
/-- the slots is of E' as they were in E -/
def backE (E : Ev) (E' : Ev) : List Nat → Ev
  | [] => E'
  | i :: is => backE E (E'.set i (eg E i)) is
def lcM (g : Fg) (c : Ft) (f : Fe) (is : List Nat) : List D → Ev → List (D × Nat) → Option (List (D × Nat) × Ev)
  | [], E, acc => some (acc, E)
  | d :: ds, E, acc => (g d E).bind fun E1 => (c E1).bind fun q => if q.1 = true then
      (f q.2).bind fun r => (tk r.2 r.1).bind fun t => if acc.length < sizeLine then lcM g c f is ds (wipeE t.2.2 is) (acc ++ [(t.1, t.2.1)]) else none
    else lcM g c f is ds (wipeE q.2 is) acc
def mLc (it : Fi) (is : List Nat) (g : Fg) (c : Ft) (f : Fe) : Fe := fun E => (it E).bind fun p => (lcM g c f is p.1 (wipeE p.2 is) []).map fun q => (.val (.lst (q.1.map (·.1))) (uni q.1), backE p.2 q.2 is)
def mYes : Ft := fun E => some (true, E)

theorem S.sigma (s : S K Z H σ E R) (hl : σ'.length = σ.length) (h : ∀ i, eg E i ≠ none → σ'[i]? = σ[i]?) : S K Z H σ' E R :=
  ⟨by rw [hl]; exact s.len, fun i d n e => by
    obtain ⟨v, h1, h2⟩ := s.slot i d n e
    exact ⟨v, by rw [h i (by rw [e]; simp)]; exact h1, h2⟩, s.emp, s.nd, s.dj, s.zd⟩
/-- the slots is are forgotten -/
theorem S.wipe : ∀ (is : List Nat) {E : Ev} {R : Rs}, S K Z H σ E R → ∃ R', S K Z H σ (wipeE E is) R' ∧ (∀ k, k ∉ is → R' k = R k) ∧ (∀ k ∈ is, R' k = []) ∧ (∀ k, k ∉ is → eg (wipeE E is) k = eg E k) ∧ (∀ k ∈ is, eg (wipeE E is) k = none)
  | [], E, R, s => ⟨R, s, fun _ _ => rfl, fun _ h => by simp at h, fun _ _ => rfl, fun _ h => by simp at h⟩
  | i :: is, E, R, s => by
    have non : eg (E.set i none) i = none := by
      by_cases hi : i < E.length
      · exact eg_set_same hi
      · unfold eg; rw [List.getElem?_eq_none (by simp; omega)]; rfl
    obtain ⟨R', s', h1, h2, h3, h4⟩ := S.wipe is (s.dropSlot (i := i))
    refine ⟨R', s', fun k hk => ?_, fun k hk => ?_, fun k hk => ?_, fun k hk => ?_⟩
    · rw [List.mem_cons, not_or] at hk
      rw [h1 k hk.2, put_ne hk.1]
    · by_cases c : k ∈ is
      · exact h2 k c
      · have e : k = i := (List.mem_cons.mp hk).resolve_right c
        subst e
        rw [h1 k c, put_same]
    · rw [List.mem_cons, not_or] at hk
      simp only [wipeE]
      rw [h3 k hk.2, eg_set_ne hk.1]
    · by_cases c : k ∈ is
      · exact h4 k c
      · have e : k = i := (List.mem_cons.mp hk).resolve_right c
        subst e
        simp only [wipeE]
        rw [h3 k c, non]
theorem wipeE_len : ∀ (is : List Nat) (E : Ev), (wipeE E is).length = E.length
  | [], _ => rfl
  | i :: is, E => by simp only [wipeE]; rw [wipeE_len is]; simp
theorem backE_get : ∀ (is : List Nat) (E E' : Ev), (backE E E' is).length = E'.length ∧ ∀ k, eg (backE E E' is) k = if k ∈ is ∧ k < E'.length then eg E k else eg E' k
  | [], E, E' => ⟨rfl, fun k => by simp [backE]⟩
  | i :: is, E, E' => by
    obtain ⟨h1, h2⟩ := backE_get is E (E'.set i (eg E i))
    refine ⟨by simp only [backE]; rw [h1]; simp, fun k => ?_⟩
    simp only [backE]
    rw [h2 k]
    simp only [List.length_set, List.mem_cons]
    by_cases c : k ∈ is ∧ k < E'.length
    · rw [if_pos c, if_pos ⟨.inr c.1, c.2⟩]
    · rw [if_neg c]
      by_cases c2 : k = i
      · subst c2
        by_cases c3 : k < E'.length
        · rw [eg_set_same c3, if_pos ⟨.inl rfl, c3⟩]
        · rw [if_neg (fun h => c3 h.2)]
          unfold eg
          rw [List.getElem?_eq_none (by simp; omega), List.getElem?_eq_none (by omega)]
      · rw [eg_set_ne c2, if_neg]
        rintro ⟨h | h, hl⟩
        · exact c2 h
        · exact c ⟨h, hl⟩
/-- a changeable thing that is no slot's is changed -/
theorem S.free (s : S K Z H σ E R) {p : Addr} {o o' : HO} (hp : H p = some o) (mu : Mut (some o)) (no : ¬ ow R p) (nz : ¬ Z p) : S K Z (upd H p o') σ E R ∧ Pers Z H Z (upd H p o') := by
  have pz : Pers Z H Z (upd H p o') := ⟨fun _ h => h, fun b u z e => by
    have ne : b ≠ p := fun e2 => nz (by rw [← e2]; exact z)
    rw [upd_ne ne]; exact e, fun b u e n => by
    have ne : b ≠ p := fun e2 => n (by rw [e2, hp] at e; cases e; exact mu)
    rw [upd_ne ne]; exact e⟩
  refine ⟨⟨s.len, fun i d n e => ?_, s.emp, s.nd, s.dj, fun a z => ?_⟩, pz⟩
  · obtain ⟨v, h1, h2⟩ := s.slot i d n e
    exact ⟨v, h1, h2.keep pz fun a m => ⟨upd_ne fun e => no ⟨i, by rw [← e]; exact m⟩, (h2.mut a m).2⟩⟩
  · by_cases c : a = p
    · rw [c, upd_same]; simp
    · rw [upd_ne c]; exact s.zd a z
/-- a list of taken items that is no slot's, told -/
theorem S.oldList (s : S K Z H σ E R) {vs : List V} {ds : List (D × Nat)} {rss : List (List Addr)} (h : TL K Z H vs ds rss) (nd : rss.flatten.Nodup) (no : ∀ a ∈ rss.flatten, ¬ ow R a) {p : Addr} (hp : H p = some (.lst vs)) (nz : ¬ Z p) (pne : ∀ a ∈ rss.flatten, a ≠ p) :
    ∃ Zf rs, S K Zf H σ E R ∧ Own K Zf H (uni ds) (.ref p) (.lst (ds.map (·.1))) rs ∧ rs.Nodup ∧ (∀ a ∈ rs, a = p ∨ a ∈ rss.flatten) ∧ (∀ a, Z a → Zf a) ∧ (∀ a, Zf a → Z a ∨ a ∈ rss.flatten) := by
  have th := TL.there h
  have froz : ∃ Zf rs, S K Zf H σ E R ∧ Own K Zf H 1 (.ref p) (.lst (ds.map (·.1))) rs ∧ rs.Nodup ∧ (∀ a ∈ rs, a = p ∨ a ∈ rss.flatten) ∧ (∀ a, Z a → Zf a) ∧ (∀ a, Zf a → Z a ∨ a ∈ rss.flatten) := by
    refine ⟨_, [p], s.chill no th, ⟨p, vs, _, rfl, hp, fun z => ?_, All3.ofRps0 (h.froz (Z' := fun a => Z a ∨ a ∈ rss.flatten) ⟨fun _ h => .inl h, fun _ _ _ h => h, fun _ _ h _ => h⟩ fun a ma => ⟨rfl, .inr ma⟩), by rw [flat_nils]⟩, by simp, fun a ma => .inl (by simpa using ma), fun _ h => .inl h, fun _ h => h⟩
    rcases z with z | z
    · exact nz z
    · exact pne p z rfl
  unfold uni
  split
  · rename_i i
    obtain ⟨r, e⟩ := h.immR i
    exact ⟨Z, [p], s, ⟨p, vs, _, rfl, hp, nz, All3.ofRpsI r i, by rw [flat_nils]⟩, by simp, fun a ma => .inl (by simpa using ma), fun _ h => h, fun _ h => .inl h⟩
  · split
    · rename_i d hd
      split
      · rename_i a
        exact ⟨Z, p :: rss.flatten, s, ⟨p, vs, rss, rfl, hp, nz, h.all a, rfl⟩, List.nodup_cons.mpr ⟨fun z => pne p z rfl, nd⟩, fun a ma => List.mem_cons.mp ma, fun _ h => h, fun _ h => .inl h⟩
      · exact froz
    · rename_i hn _ hi
      exact absurd (by
        rw [imms_all, List.all_map, List.all_eq_true]
        intro x hx
        have := List.find?_eq_none.mp hi x hx
        simpa using this) hn
theorem wipe_same {σ σ' : L2.St} : ∀ {is : List Nat}, σ'.length = σ.length → (∀ i, i ∉ is → σ'[i]? = σ[i]?) → L2.wipe σ' is = L2.wipe σ is := fun {is} hl h => by
  apply List.ext_getElem?
  intro i
  by_cases c : i ∈ is
  · have non : ∀ τ : L2.St, i < τ.length → (L2.wipe τ is)[i]? = some none := fun τ hi => by
      have hi2 : i < (L2.wipe τ is).length := by rw [wipe_length]; exact hi
      rw [List.getElem?_eq_getElem hi2]
      cases q : (L2.wipe τ is)[i] with
      | none => rfl
      | some x =>
        have := (wipe_some (σ := τ) (vs := is) (i := i) (x := x) (by rw [List.getElem?_eq_getElem hi2, q])).2
        exact absurd c this
    by_cases hi : i < σ.length
    · rw [non σ hi, non σ' (by omega)]
    · rw [List.getElem?_eq_none (by rw [wipe_length]; omega), List.getElem?_eq_none (by rw [wipe_length]; omega)]
  · rw [wipe_out c, wipe_out c]
    exact h i c
/-- a target leaves the number of slots -/
def GL (g : Fg) : Prop := ∀ d E E', g d E = some E' → E'.length = E.length
theorem lc_of {it : Fi} {is w : List Nat} {g : Fg} {c : Ft} {f : Fe} {Q : VK} (hgl : GL g) (hw : ∀ i ∈ w, i ∈ is) (q : eOf K (mLc it is g c f) σ H Q) : tLc (iOf K it) (gOf K w g) (cOf K c) (eOf K f) is σ H Q := by
  obtain ⟨Z, E, R, s, o, E', e, q⟩ := q
  unfold mLc at e
  cases e1 : it E with
  | none => rw [e1] at e; cases e
  | some p =>
    obtain ⟨its, E1⟩ := p
    rw [e1] at e
    simp only [Option.bind_some] at e
    cases e2 : lcM g c f is its (wipeE E1 is) [] with
    | none => rw [e2] at e; cases e
    | some p2 =>
      obtain ⟨accF, EF⟩ := p2
      rw [e2] at e
      cases e
      refine ⟨Z, E, R, s, its, E1, e1, fun J Z1 H1 R1 s1 t1 ok D hD => ?_⟩
      obtain ⟨Rw, sw, w1, w2, w3, w4⟩ := s1.wipe is
      have sw : S K Z1 H1 (L2.wipe σ is) (wipeE E1 is) Rw := sw.sigma (wipe_length σ is) fun i hi => wipe_out fun m => hi (w4 i m)
      have owR : ∀ a, ow Rw a → ow R1 a := fun a ⟨k, m⟩ => by
        by_cases ck : k ∈ is
        · rw [w2 k ck] at m; simp at m
        · exact ⟨k, by rw [← w1 k ck]; exact m⟩
      have nZ1D : ¬ Z1 D := fun z => s1.zd D z hD
      have mD : More H1 (upd H1 D (.lst [])) := .upd hD
      -- the invariant
      refine ⟨fun i m H2 => ∃ Z2 E2 R2 accV accD rss, S K Z2 H2 (L2.wipe σ is) E2 R2 ∧ Step Z1 H1 (ow Rw) Z2 H2 (ow R2) ∧ (∀ k ∈ is, R2 k = []) ∧ E2.length = E1.length ∧ H2 D = some (.lst accV) ∧ ¬ Z2 D ∧ ¬ ow R2 D ∧ TL K Z2 H2 accV accD rss ∧ rss.flatten.Nodup ∧
          (∀ a ∈ rss.flatten, ¬ ow R2 a ∧ a ≠ D ∧ (ow Rw a ∨ H1 a = none)) ∧ lcM g c f is (its.drop i) E2 accD = some (accF, EF) ∧ m = its.length - i ∧ i ≤ its.length,
        ⟨its.length, Z1, wipeE E1 is, Rw, [], [], [], sw.more mD, mD.step _, w2, wipeE_len is E1, upd_same, nZ1D, fun h => sw.there h hD, .nil, by simp, fun a m => by simp at m, e2, by simp, Nat.zero_le _⟩, ?_⟩
      rintro i m H2 ⟨Z2, E2, R2, accV, accD, rss, s2, t2, r2, l2, h2D, z2D, o2D, tl, tnd, tno, e3, rfl, hi⟩
      have p2 : Pers Z1 H1 Z2 H2 := sw.pers t2
      by_cases hlt : i < its.length
      · right
        refine ⟨ok.go Z2 H2 i p2 hlt, ?_⟩
        rw [List.drop_eq_getElem_cons hlt] at e3
        simp only [lcM] at e3
        cases e4 : g its[i] E2 with
        | none => rw [e4] at e3; cases e3
        | some E3 =>
          rw [e4] at e3
          simp only [Option.bind_some] at e3
          cases e5 : c E3 with
          | none => rw [e5] at e3; cases e3
          | some p5 =>
            obtain ⟨b, E5⟩ := p5
            rw [e5] at e3
            simp only [Option.bind_some] at e3
            -- what stands behind a turn
            refine ⟨fun H6 => ∃ m', m' < its.length - i ∧ ∃ Z2 E2 R2 accV accD rss, S K Z2 H6 (L2.wipe σ is) E2 R2 ∧ Step Z1 H1 (ow Rw) Z2 H6 (ow R2) ∧ (∀ k ∈ is, R2 k = []) ∧ E2.length = E1.length ∧ H6 D = some (.lst accV) ∧ ¬ Z2 D ∧ ¬ ow R2 D ∧ TL K Z2 H6 accV accD rss ∧ rss.flatten.Nodup ∧
                (∀ a ∈ rss.flatten, ¬ ow R2 a ∧ a ≠ D ∧ (ow Rw a ∨ H1 a = none)) ∧ lcM g c f is (its.drop (i + 1)) E2 accD = some (accF, EF) ∧ m' = its.length - (i + 1) ∧ i + 1 ≤ its.length, fun H6 h => h, fun x H3 y => ?_⟩
            obtain ⟨m3, d, hd, rx⟩ := ok.yld Z2 H2 i x H3 p2 hlt y
            have ed : its[i] = d := by rw [List.getElem?_eq_getElem hlt] at hd; exact Option.some.inj hd
            refine ⟨Z2, E2, R2, d, s2.more m3, rx, E3, by rw [← ed]; exact e4, fun σ4 R4 s4 t4 k4 => ⟨?_, ?_⟩⟩
            · have hl : σ4.length = (L2.wipe σ is).length := by rw [s4.len, (s2.more m3).len]; exact hgl _ _ _ e4
              have := wipe_same (σ := L2.wipe σ is) (σ' := σ4) (is := is) hl fun j hj => k4 j fun m => hj (hw j m)
              rw [this]
              exact wipe_same (by rw [wipe_length]) fun j hj => wipe_out hj
            refine ⟨Z2, E3, R4, s4, b, E5, e5, fun Z5 H5 R5 s5 t5 => ?_⟩
            have t35 := (m3.step (ow R2)).trans (t4.trans t5)
            have sig : ∀ j, j ∉ is → σ4[j]? = (L2.wipe σ is)[j]? := fun j hj => k4 j fun m => hj (hw j m)
            -- the new list and its items across a step
            have keepD : ∀ {Z6 : Addr → Prop} {H6 : Hp} {R6 : Rs}, Step Z2 H2 (ow R2) Z6 H6 (ow R6) → H6 D = some (.lst accV) ∧ ¬ Z6 D ∧ ¬ ow R6 D ∧ TL K Z6 H6 accV accD rss ∧ ∀ a ∈ rss.flatten, ¬ ow R6 a ∧ a ≠ D ∧ (ow Rw a ∨ H1 a = none) := fun {Z6 H6 R6} t => by
              refine ⟨t.hh D _ h2D o2D, fun z => ?_, fun z => ?_, All3.imp tl fun v d rs m o => (s2.pend t o fun a ma => (tno a (mem_flatten_of m ma)).1).1, fun a ma => ⟨fun z => ?_, (tno a ma).2⟩⟩
              · rcases t.zn D z with z | z | z
                · exact z2D z
                · rw [h2D] at z; cases z
                · exact o2D z
              · rcases t.on D z with z | z
                · exact o2D z
                · rw [h2D] at z; cases z
              · rcases t.on a z with z | z
                · exact (tno a ma).1 z
                · exact TL.there tl a ma z
            cases b with
            | false =>
              rw [if_neg Bool.false_ne_true] at e3
              refine iteF ?_
              obtain ⟨Rx, sx, x1, x2, x3, x4⟩ := s5.wipe is
              have owx : ∀ a, ow Rx a → ow R5 a := fun a ⟨k, m⟩ => by
                by_cases ck : k ∈ is
                · rw [x2 k ck] at m; simp at m
                · exact ⟨k, by rw [← x1 k ck]; exact m⟩
              have sx : S K Z5 H5 (L2.wipe σ is) (wipeE E5 is) Rx := sx.sigma (by have a1 := s5.len; have a2 := s4.len; have a3 := hgl _ _ _ e4; have a4 := s2.len; have a5 := wipe_length σ is; omega) fun j hj => (sig j fun m => hj (x4 j m)).symm
              have tx : Step Z2 H2 (ow R2) Z5 H5 (ow Rx) := t35.trans ⟨fun _ h => h, fun _ h => .inl h, fun _ _ h _ => h, fun a h => .inl (owx a h), fun _ h => h⟩
              obtain ⟨k1, k2, k3, k4', k5⟩ := keepD tx
              exact ⟨_, by omega, Z5, _, Rx, accV, accD, rss, sx, t2.trans tx, x2, by have a1 := s5.len; have a2 := s4.len; have a3 := hgl _ _ _ e4; rw [wipeE_len]; omega, k1, k2, k3, k4', tnd, k5, e3, rfl, hlt⟩
            | true =>
              rw [if_pos rfl] at e3
              refine iteT ?_
              cases e6 : f E5 with
              | none => rw [e6] at e3; cases e3
              | some p6 =>
                obtain ⟨o6, E6⟩ := p6
                rw [e6] at e3
                simp only [Option.bind_some] at e3
                cases e7 : tk E6 o6 with
                | none => rw [e7] at e3; cases e3
                | some p7 =>
                  obtain ⟨dv, nv, E7⟩ := p7
                  rw [e7] at e3
                  simp only [Option.bind_some] at e3
                  split at e3
                  · rename_i hsz
                    refine ⟨Z5, E5, R5, s5, o6, E6, e6, fun y6 Z6 H6 R6 rs6 s6 t6 ov6 f6 => ?_⟩
                    obtain ⟨Z7, R7, s7, t7, o7, n7, sub7⟩ := s6.take ov6 f6.no e7
                    obtain ⟨Rx, sx, x1, x2, x3, x4⟩ := s7.wipe is
                    have owx : ∀ a, ow Rx a → ow R7 a := fun a ⟨k, m⟩ => by
                      by_cases ck : k ∈ is
                      · rw [x2 k ck] at m; simp at m
                      · exact ⟨k, by rw [← x1 k ck]; exact m⟩
                    have l7 : E7.length = E1.length := by have a1 := s7.len; have a2 := s4.len; have a3 := hgl _ _ _ e4; omega
                    have sx : S K Z7 H6 (L2.wipe σ is) (wipeE E7 is) Rx := sx.sigma (by have a1 := s7.len; have a4 := s2.len; have a5 := wipe_length σ is; omega) fun j hj => (sig j fun m => hj (x4 j m)).symm
                    have tx : Step Z2 H2 (ow R2) Z7 H6 (ow Rx) := (t35.trans (t6.trans t7)).trans ⟨fun _ h => h, fun _ h => .inl h, fun _ _ h _ => h, fun a h => .inl (owx a h), fun _ h => h⟩
                    obtain ⟨k1, k2, k3, k4', k5⟩ := keepD tx
                    refine ⟨accV, k1, by rw [TL.len tl]; exact hsz, ?_⟩
                    -- what the new item has is not the list, not in it
                    have of6 : ∀ a ∈ rs6, ow R2 a ∨ H2 a = none := fun a ma => by
                      rcases f6.of a ma with z | z
                      · exact t35.on a z
                      · cases cc : H2 a with
                        | none => exact .inr rfl
                        | some u => exact absurd z (t35.dm a (by rw [cc]; simp))
                    have neD : ∀ a ∈ rs6, a ≠ D := fun a ma e => by
                      subst e
                      rcases of6 a ma with z | z
                      · exact o2D z
                      · rw [h2D] at z; cases z
                    have apart : ∀ a ∈ rs6, a ∉ rss.flatten := fun a ma z => by
                      rcases of6 a ma with y | y
                      · exact (tno a z).1 y
                      · exact TL.there tl a z y
                    obtain ⟨s8, p8⟩ := sx.free (o' := .lst (accV ++ [y6])) k1 trivial k3 k2
                    have tl8 : TL K Z7 (upd H6 D (.lst (accV ++ [y6]))) (accV ++ [y6]) (accD ++ [(dv, nv)]) (rss ++ [rs6]) :=
                      All3.append (All3.imp k4' fun v d rs m o => o.keep p8 fun a ma => ⟨upd_ne (k5 a (mem_flatten_of m ma)).2.1, (o.mut a ma).2⟩)
                        (.cons (o7.keep p8 fun a ma => ⟨upd_ne (neD a ma), (o7.mut a ma).2⟩) .nil)
                    have t8 : Step Z1 H1 (ow Rw) Z7 (upd H6 D (.lst (accV ++ [y6]))) (ow Rx) := by
                      have tt := t2.trans tx
                      refine ⟨tt.zz, tt.zn, fun a o ho h => ?_, tt.on, fun a h e => ?_⟩
                      · have ne : a ≠ D := fun e => by rw [e, hD] at ho; cases ho
                        rw [upd_ne ne]; exact tt.hh a o ho h
                      · by_cases ca : a = D
                        · rw [ca, upd_same] at e; cases e
                        · rw [upd_ne ca] at e; exact tt.dm a h e
                    refine ⟨_, by omega, Z7, _, Rx, accV ++ [y6], accD ++ [(dv, nv)], rss ++ [rs6], s8, t8, x2, by rw [wipeE_len, l7], upd_same, k2, k3, tl8, ?_, fun a ma => ?_, e3, rfl, hlt⟩
                    · rw [List.flatten_append]
                      simp only [List.flatten_cons, List.flatten_nil, List.append_nil]
                      exact List.nodup_append.mpr ⟨tnd, f6.nd, fun a ma b mb e => apart b mb (e ▸ ma)⟩
                    · rw [List.flatten_append] at ma
                      simp only [List.flatten_cons, List.flatten_nil, List.append_nil, List.mem_append] at ma
                      rcases ma with ma | ma
                      · exact k5 a ma
                      · refine ⟨fun z => n7 a ma (owx a z), neD a ma, ?_⟩
                        rcases of6 a ma with z | z
                        · exact t2.on a z
                        · cases cc : H1 a with
                          | none => exact .inr rfl
                          | some u => exact absurd z (t2.dm a (by rw [cc]; simp))
                  · cases e3
      · left
        have ei : i = its.length := by omega
        subst ei
        rw [List.drop_length] at e3
        cases e3
        refine ⟨ok.stop Z2 H2 p2, ?_⟩
        obtain ⟨Z3, rs3, s3, o3, nd3, in3, zz3, zn3⟩ := s2.oldList tl tnd (fun a m => (tno a m).1) h2D z2D fun a m => (tno a m).2.1
        -- the hidden slots again
        have hidN : ∀ k ∈ is, ∀ a ∈ R1 k, ¬ ow Rw a := fun k hk a ma ⟨l, ml⟩ => by
          by_cases cl : l ∈ is
          · rw [w2 l cl] at ml; simp at ml
          · rw [w1 l cl] at ml
            exact cl ((s1.dj k l a ma ml) ▸ hk)
        have hidH : ∀ k ∈ is, ∀ a ∈ R1 k, H2 a = H1 a ∧ ¬ Z3 a ∧ ¬ ow R2 a ∧ a ≠ D ∧ a ∉ rss.flatten := fun k hk a ma => by
          have th := s1.there ⟨k, ma⟩
          have nf : a ∉ rss.flatten := fun z => by
            rcases (tno a z).2.2 with y | y
            · exact hidN k hk a ma y
            · exact th y
          refine ⟨?_, fun z => ?_, fun z => ?_, fun e => th (by rw [e]; exact hD), nf⟩
          · cases cc : H1 a with
            | none => exact absurd cc th
            | some u => exact t2.hh a u cc (hidN k hk a ma)
          · rcases zn3 a z with z | z
            · rcases t2.zn a z with z | z | z
              · exact (s1.owns ⟨k, ma⟩).2 z
              · exact th z
              · exact hidN k hk a ma z
            · exact nf z
          · rcases t2.on a z with z | z
            · exact hidN k hk a ma z
            · exact th z
        let RF : Rs := fun k => if k ∈ is then R1 k else R2 k
        obtain ⟨bl, bg⟩ := backE_get is E1 EF
        have sF : S K Z3 H2 σ (backE E1 EF is) RF := by
          refine ⟨by rw [bl, l2, ← s1.len], fun k d n ek => ?_, fun k ek => ?_, fun k => ?_, fun k l a m1 m2 => ?_, s3.zd⟩
          · rw [bg k] at ek
            by_cases ck : k ∈ is
            · by_cases cl : k < EF.length
              · rw [if_pos ⟨ck, cl⟩] at ek
                obtain ⟨v, hv, ov⟩ := s1.slot k d n ek
                refine ⟨v, hv, ?_⟩
                have eR : RF k = R1 k := if_pos ck
                rw [eR]
                exact ov.keep ⟨fun a z => zz3 a (p2.zz a z), p2.hz, p2.tp⟩ fun a ma => ⟨(hidH k ck a ma).1, (hidH k ck a ma).2.1⟩
              · rw [if_neg fun h => cl h.2] at ek
                exact absurd (eg_lt ek) cl
            · rw [if_neg fun h => ck h.1] at ek
              obtain ⟨v, hv, ov⟩ := s3.slot k d n ek
              have eR : RF k = R2 k := if_neg ck
              rw [eR]
              exact ⟨v, by rw [← wipe_out ck]; exact hv, ov⟩
          · rw [bg k] at ek
            by_cases ck : k ∈ is
            · have eR : RF k = R1 k := if_pos ck
              rw [eR]
              by_cases cl : k < EF.length
              · rw [if_pos ⟨ck, cl⟩] at ek
                exact s1.emp k ek
              · refine s1.emp k ?_
                unfold eg
                rw [List.getElem?_eq_none (by omega)]; rfl
            · rw [if_neg fun h => ck h.1] at ek
              have eR : RF k = R2 k := if_neg ck
              rw [eR]
              exact s3.emp k ek
          · by_cases ck : k ∈ is
            · have eR : RF k = R1 k := if_pos ck
              rw [eR]; exact s1.nd k
            · have eR : RF k = R2 k := if_neg ck
              rw [eR]; exact s2.nd k
          · by_cases ck : k ∈ is
            · have eR : RF k = R1 k := if_pos ck
              rw [eR] at m1
              by_cases cl : l ∈ is
              · have eR : RF l = R1 l := if_pos cl
                rw [eR] at m2
                exact s1.dj k l a m1 m2
              · have eR : RF l = R2 l := if_neg cl
                rw [eR] at m2
                exact absurd ⟨l, m2⟩ (hidH k ck a m1).2.2.1
            · have eR : RF k = R2 k := if_neg ck
              rw [eR] at m1
              by_cases cl : l ∈ is
              · have eR : RF l = R1 l := if_pos cl
                rw [eR] at m2
                exact absurd ⟨k, m1⟩ (hidH l cl a m2).2.2.1
              · have eR : RF l = R2 l := if_neg cl
                rw [eR] at m2
                exact s2.dj k l a m1 m2
        have back : ∀ a, H1 a = none → H a = none := fun a h => by
          cases cc : H a with
          | none => rfl
          | some u => exact absurd h (t1.dm a (by rw [cc]; simp))
        have owF : ∀ a, ow RF a → ow R1 a ∨ ow R2 a := fun a ⟨k, m⟩ => by
          by_cases ck : k ∈ is
          · have eR : RF k = R1 k := if_pos ck
            rw [eR] at m; exact .inl ⟨k, m⟩
          · have eR : RF k = R2 k := if_neg ck
            rw [eR] at m; exact .inr ⟨k, m⟩
        have R2on : ∀ a, ow R2 a → ow R a ∨ H a = none := fun a h => by
          rcases t2.on a h with z | z
          · exact t1.on a (owR a z)
          · exact .inr (back a z)
        have flon : ∀ a ∈ rss.flatten, ow R a ∨ H a = none := fun a m => by
          rcases (tno a m).2.2 with z | z
          · exact t1.on a (owR a z)
          · exact .inr (back a z)
        have tF : Step Z H (ow R) Z3 H2 (ow RF) := by
          refine ⟨fun a z => zz3 a (p2.zz a (t1.zz a z)), fun a z => ?_, fun a u hu ha => ?_, fun a h => ?_, fun a h => t2.dm a (t1.dm a h)⟩
          · rcases zn3 a z with z | z
            · rcases t2.zn a z with z | z | z
              · exact t1.zn a z
              · exact .inr (.inl (back a z))
              · rcases t1.on a (owR a z) with y | y
                · exact .inr (.inr y)
                · exact .inr (.inl y)
            · rcases flon a z with y | y
              · exact .inr (.inr y)
              · exact .inr (.inl y)
          · refine t2.hh a u (t1.hh a u hu ha) fun z => ?_
            rcases t1.on a (owR a z) with y | y
            · exact ha y
            · rw [hu] at y; cases y
          · rcases owF a h with z | z
            · exact t1.on a z
            · exact R2on a z
        refine q (.ref D) Z3 H2 RF rs3 sF tF o3 ⟨nd3, fun a m z => ?_, fun a m => ?_⟩
        · rcases in3 a m with rfl | mm
          · rcases owF a z with y | y
            · exact s1.there y hD
            · exact o2D y
          · rcases owF a z with y | y
            · obtain ⟨k, mk⟩ := y
              rcases (tno a mm).2.2 with z' | z'
              · by_cases ck : k ∈ is
                · exact hidN k ck a mk z'
                · obtain ⟨l, ml⟩ := z
                  by_cases cl : l ∈ is
                  · have eR : RF l = R1 l := if_pos cl
                    rw [eR] at ml
                    exact hidN l cl a ml z'
                  · have eR : RF l = R2 l := if_neg cl
                    rw [eR] at ml
                    exact (tno a mm).1 ⟨l, ml⟩
              · exact s1.there ⟨k, mk⟩ z'
            · exact (tno a mm).1 y
        · rcases in3 a m with rfl | mm
          · exact .inr (back a hD)
          · exact flon a mm
where
  elen {Z Z' : Addr → Prop} {H H' : Hp} {σ : L2.St} {E E' : Ev} (h : σ.length = E'.length) (h' : σ.length = E.length) : E.length = E'.length := by rw [← h, h']
end
end Zk
namespace Zk
open PySem PySem.Spec PyProof.Rows L2
section
variable {K : PySem.W.Frag} {H : Hp} {σ : L2.St}
theorem gl_v {i : Nat} : GL (tgV i) := fun d E E' h => by
  unfold tgV at h
  split at h
  · cases h; simp
  · cases h
def GLs (g : List D → Ev → Option Ev) : Prop := ∀ ds E E', g ds E = some E' → E'.length = E.length
theorem gl_n : GLs tgN := fun ds E E' h => by
  unfold tgN at h
  split at h
  · cases h; rfl
  · cases h
theorem gl_c {f : Fg} {g : List D → Ev → Option Ev} (hf : GL f) (hg : GLs g) : GLs (tgC f g) := fun ds E E' h => by
  unfold tgC at h
  split at h
  · rename_i d ds
    cases e : f d E with
    | none => rw [e] at h; cases h
    | some E1 =>
      rw [e] at h
      exact (hg _ _ _ h).trans (hf _ _ _ e)
  · cases h
theorem gl_t {n : Nat} {g : List D → Ev → Option Ev} (hg : GLs g) : GL (tgT n g) := fun d E E' h => by
  unfold tgT at h
  repeat' split at h
  all_goals first | exact hg _ _ _ h | cases h
theorem mYes_of {Q : Bool → Hp → Prop} (q : cOf K mYes σ H Q) : tYes σ H Q := by
  obtain ⟨Z, E, R, s, b, E', e, q⟩ := q
  cases e
  exact q Z H R s .refl
theorem PTs.mono {X : Cx} {ifs : List Expr} {t t' : TT} (h : PTs X ifs t) (m : ∀ σ H Q, t' σ H Q → t σ H Q) : PTs X ifs t' := ⟨fun pins s σ H Q I q => h.run pins s σ H Q I (m σ H Q q)⟩
end
section
variable {X : Cx} {e e2 c elt tg iter : Expr} {es ifs : List Expr} {fe fk fv : Fe} {ft : Ft} {fi : Fi} {g : Fg} {scope : Scope} {pos pos' spos py : PySem.Pos} {w : List Nat} {own : List (Str × Nat)}
abbrev ATs (X : Cx) (ifs : List Expr) (c : Ft) : Prop := PTs X ifs (cOf X.K c)
theorem ats_nil : ATs X [] mYes := PTs.mono pts_nil fun _ _ _ q => mYes_of q
theorem ats_one (h : AT X c ft) : ATs X [c] ft := pts_one h
/-- [elt for tg in iter if ..] -/
theorem ae_lc (own : List (Str × Nat)) (hN : X.N.Nodup) (ok : BlkOk X.N X.env.scope scope own) (hi : AI X tg iter fi)
    (hg : ∀ (s : Shared) (H : Hp) (C : Addr) (cl : List (Str × Addr)) (fp : List Addr), AG (X.blk s H scope (compEnvC scope cl C X.env) fp) tg w g)
    (ht : ∀ (s : Shared) (H : Hp) (C : Addr) (cl : List (Str × Addr)) (fp : List Addr), ATs (X.blk s H scope (compEnvC scope cl C X.env) fp) ifs ft)
    (he : ∀ (s : Shared) (H : Hp) (C : Addr) (cl : List (Str × Addr)) (fp : List Addr), AE (X.blk s H scope (compEnvC scope cl C X.env) fp) elt fe)
    (hgl : GL g) (hw : ∀ i ∈ w, i ∈ own.map (·.2) := by decide) (hc : X.calm = true := by rfl) (hs : ∀ x, foldedSetIterable iter X.env x = pure x := by intro _; rfl) :
    AE X (.ListComp elt [⟨tg, iter, ifs, 0⟩] scope pos) (mLc fi (own.map (·.2)) g ft fe) :=
  PE.mono (pe_lc hc hN hi ok hg ht he hs) fun σ H Q q => lc_of hgl hw q
/-- y = [elt for tg in iter if ..] on one line -/
theorem as_setLc (i : Nat) {y : Str} (own : List (Str × Nat)) (hN : X.N.Nodup) (ok : BlkOk X.N X.env.scope scope own) (hi : AI X tg iter fi)
    (hg : ∀ (s : Shared) (H : Hp) (C : Addr) (cl : List (Str × Addr)) (fp : List Addr), AG (X.blk s H scope (compEnvC scope cl C X.env) fp) tg w g)
    (ht : ∀ (s : Shared) (H : Hp) (C : Addr) (cl : List (Str × Addr)) (fp : List Addr), ATs (X.blk s H scope (compEnvC scope cl C X.env) fp) ifs ft)
    (he : ∀ (s : Shared) (H : Hp) (C : Addr) (cl : List (Str × Addr)) (fp : List Addr), AE (X.blk s H scope (compEnvC scope cl C X.env) fp) elt fe)
    (hgl : GL g) (ha : (scope.names.any fun (n, k) => n == y && (k == .local || k == .cell)) = false) (hy : X.N[i]? = some y := by rfl) (hyl : X.env.scope.names.lookup y = some .local := by rfl) (hk : X.env.scope.kind = .function := by rfl) (hl : (py.line == pos.line) = true := by rfl)
    (hw : ∀ i ∈ w, i ∈ own.map (·.2) := by decide) (hc : X.calm = true := by rfl) (hs : ∀ x, foldedSetIterable iter X.env x = pure x := by intro _; rfl) :
    AS X (.Assign [.Name y py] (.ListComp elt [⟨tg, iter, ifs, 0⟩] scope pos) spos) [i] (mSet i (mLc fi (own.map (·.2)) g ft fe)) :=
  PS.mono (ps_setLc hc hN hy hyl (sw_true hk hyl hl ha) hi ok hg ht he hs) fun D σ H q => lc_of hgl hw (set_of q)
end
section
variable {K : PySem.W.Frag} {Z Z' Zf Z0 : Addr → Prop} {H H' H0 : Hp} {σ : L2.St} {E E' : Ev} {R R' R0 : Rs}
def mDicT : Fe := fun E => some (.val (.dT []) 9, E)
theorem dicT_of {Q : VK} (q : eOf K mDicT σ H Q) : tDNewT σ H Q := by
  obtain ⟨Z, E, R, s, o, E', e, q⟩ := q
  cases e
  intro p hp
  have nz : ¬ Z p := fun z => s.zd p z hp
  exact q (.ref p) Z _ R [p] (s.more (.upd hp)) (Step.fin .refl (fun _ h => h) (fun a z => .inl z) (.upd hp) fun a h => .inl h) ⟨p, [], [], rfl, upd_same, nz, rfl, .nil, rfl⟩ ⟨by simp, fun a m => by
    have e : a = p := by simpa using m
    subst e; exact fun z => s.there z hp, fun a m => by
    have e : a = p := by simpa using m
    subst e; exact .inr hp⟩
/-- the int keys of a dict -/
def keyI : List (Key × D) → Option (List Int)
  | [] => some []
  | (.inl i, _) :: kds => (keyI kds).map (i :: ·)
  | _ => none
theorem keyI_eq : ∀ {kds : List (Key × D)} {ks : List Int}, keyI kds = some ks → kds.map (·.1) = ks.map Sum.inl
  | [], _, h => by cases h; rfl
  | (.inl i, _) :: kds, ks, h => by
    simp only [keyI] at h
    cases q : keyI kds with
    | none => rw [q] at h; cases h
    | some ms => rw [q] at h; cases h; simp [keyI_eq q]
  | (.inr i, _) :: kds, ks, h => by simp [keyI] at h
def rSrtD : List V → Hp → VK → Prop := fun ws H Q => ∃ (b : Addr) (its : List (Key × V)) (ns : List Int), ws = [.ref b] ∧ Rd H b (.dK its) ∧ its.map (·.1) = ns.map Sum.inl ∧
    ∀ (ms : List Int) (q : Addr), ms.Perm ns → ms.Pairwise (· ≤ ·) → H q = none → Q (.ref q) (upd H q (.lst (ms.map V.int)))
theorem ints_all : ∀ {ws : List Value} {ns : List Int}, ws.length = ns.length → (∀ (j : Nat) (w : Value), ws[j]? = some w → ∃ (i : Int) (t : Tok), ns[j]? = some i ∧ w = Value.int i t) → IntsAre ws ns
  | [], [], _, _ => .nil
  | w :: ws, n :: ns, hl, h => by
    obtain ⟨i, t, e, ew⟩ := h 0 w rfl
    cases e
    cases ew
    exact .cons _ _ (ints_all (Nat.succ.inj hl) fun j u eu => h (j + 1) u (by simpa using eu))
  | [], _ :: _, hl, _ => by cases hl
  | _ :: _, [], hl, _ => by cases hl
theorem cr_srtD {X : Cx} (calm : X.calm = true) : CallR X (.builtin "sorted") rSrtD := by
  intro P' st sg G ws vs Q2 iv rs qq
  obtain ⟨b, its, ns, rfl, rdd, hkey, qq⟩ := qq
  obtain ⟨u0, rfl, r0⟩ := vals1 rs
  cases r0
  obtain ⟨zz, low, dvs, rl, dob⟩ := dk_rd iv.hok rdd
  obtain ⟨epo, dat⟩ := dob.dictAt
  have keq : dvs.map (·.1) = ns.map Sum.inl := rl.keys.symm.trans hkey
  have len : dvs.length = ns.length := by simpa using congrArg List.length keq
  have le : dvs.length ≤ sizeLine := by rw [← rl.length]; exact zz
  refine Calls.call_function_entry PyProof.Rows.kind_sorted
    PyProof.Rows.plain_sorted PyProof.Rows.entry_sorted
    (PyProof.Rows.args_sorted1 _) ?_
  unfold Builtin.«sorted»
  refine wpAny_bind
    (m := checkCount "sorted" 1 1 _) (wpAny_pure ?_)
  refine wpAny_bind (PySem.W.kdu_collect
    (A := X.A.in1)
    (PySem.W.kdl_dict (knd := mixKind X.prog X.w)
      (kvs := dvs) (ep := epo) low)
    (iv.ok.hd calm) dat le fun hp2 tk2 got kept2 hgot => ?_)
  have gl : got.toList.length = ns.length := by rw [Array.length_toList, hgot.1, len]
  have gi : IntsAre got.toList ns := ints_all gl fun j w ew => by
    obtain ⟨k, w2, e1, e2⟩ := hgot.2 j w (by simpa using ew)
    have e3 : (ns.map (Sum.inl (β := Str)))[j]? = some k := by
      rw [← keq, List.getElem?_map, e1]; rfl
    rw [List.getElem?_map] at e3
    obtain ⟨n, en, rfl⟩ := Option.map_eq_some_iff.mp e3
    have e2' : keyIs (Sum.inl n) w = true := e2
    rcases keyIs_shape e2' with ⟨i, t, ek, ev⟩ | ⟨z, t, ek, ev⟩
    · cases ek; exact ⟨n, t, en, ev⟩
    · cases ek
  have iv2 : Inv X P' sg G { st with heap := hp2, toks := tk2 } := iv.kept kept2
  have gz : got.toList.length ≤ sizeLine := by rw [gl, ← len]; exact le
  refine wpAny_bind (wpAny_newList ?_ gz)
  have at0 : (hp2.push (seqObj "list" got.toList.toArray 0)).get? hp2.objs.size = some (seqObj "list" got.toList.toArray 0) :=
    Heap.get?_push_size _ rfl
  show wpAny _ _ _ _ _ { st with
    heap := hp2.push (seqObj "list" got.toList.toArray 0), toks := tk2 }
  refine wpAny_bind (wpAny_holding (wpAny_call_entry
    PyProof.Rows.slot_list_sort ⟨_, at0, rfl⟩
    PyProof.Rows.entry_list_sort
    (SrtO.list_sort_ord SrtO.swo_int at0 gz (fun two => SrtO.ints_sortable gi two) fun out s1 s2 => ⟨_, rfl, ?_⟩)
    (PyProof.Rows.args_list_sort _)))
  obtain ⟨o1, o2, o3⟩ := SrtO.ints_out gi s1 s2
  obtain ⟨ep2, hh⟩ := PyProof.Rows.sortedHeap_at (vs := got.toList) (out := out.toArray) at0
  have ol : ((out.map SrtO.iv).map V.int).length ≤ sizeLine := by
    rw [List.length_map, o2.length_eq, ← gl]; exact gz
  refine wpAny_pure ⟨_, rfl, .ref hp2.objs.size, upd G hp2.objs.size (.lst ((out.map SrtO.iv).map V.int)),
    iv2.laid (t' := tk2) (fun c u e => ?_) (Nat.le_refl _) (show ObjOk X.prog X.w _ _ _ (.lst ((out.map SrtO.iv).map V.int)) from ⟨ol, out, ep2, vals_of_ints o1, hh⟩),
    rfl, qq _ _ o2 o3 (iv2.hok.fresh (Nat.le_refl _))⟩
  have lt : c < hp2.objs.size := Heap.lt_size e
  have ne := Nat.ne_of_lt lt
  rw [PyProof.Rows.sortedHeap_old ne (by rw [size_push']; exact Nat.lt_succ_of_lt lt)]
  exact Heap.get?_push_of_some _ e
/-- sorted(d), d's keys ints -/
def gSrtD : List D → Option (D × Nat)
  | [.dK kds] => (keyI kds).map fun ks => (.lst ((srt ks).map D.int), 9)
  | _ => none
theorem al_srtD : AL K rSrtD gSrtD := by
  intro Z H vs ds d n Q hz k e q
  unfold gSrtD at e
  split at e
  · rename_i kds
    cases e1 : keyI kds with
    | none => rw [e1] at e; cases e
    | some ks =>
      rw [e1] at e
      cases e
      obtain ⟨x, rfl, ⟨a, kvs, rfl, ha, e2, r⟩⟩ := k.one
      refine ⟨a, kvs, ks, rfl, ha, by rw [e2]; exact keyI_eq e1, fun ys p pm so hn => ?_⟩
      have e3 : ys = srt ks := srt_uniq (pm.trans (srt_perm ks).symm) so (srt_pair ks)
      subst e3
      have := fin_lst (Q := Q) hz (Rps.ofInts (K := K) (Z := Z) (H := H) (srt ks)) (by rw [lev_ints]; exact q)
      exact this p hn
  · cases e
def srtP (ps : List (Int × Int)) : List (Int × Int) := ps.mergeSort fun a b => !SrtO.lexB b a
theorem srtP_perm (ps : List (Int × Int)) : (srtP ps).Perm ps := List.mergeSort_perm _ _
theorem srtP_pair (ps : List (Int × Int)) : SrtO.Srtd SrtO.lexB (srtP ps) := by
  have h := List.pairwise_mergeSort (le := fun a b : Int × Int => !SrtO.lexB b a) (fun a b c h1 h2 => by
    simp only [Bool.not_eq_true', Bool.not_eq_eq_eq_not, Bool.not_true] at *
    have a1 := SrtO.lexB_no.mp h1
    have b1 := SrtO.lexB_no.mp h2
    refine SrtO.lexB_no.mpr ?_
    omega) (fun a b => by
    cases h1 : SrtO.lexB b a with
    | false => simp
    | true =>
      have a1 := SrtO.lexB_iff.mp h1
      have : SrtO.lexB a b = false := SrtO.lexB_no.mpr (by omega)
      simp [this]) ps
  exact h.imp fun h => by simpa using h
theorem srtP_uniq {xs ys : List (Int × Int)} (p : xs.Perm ys) (h1 : SrtO.Srtd SrtO.lexB xs) (h2 : SrtO.Srtd SrtO.lexB ys) : xs = ys :=
  p.eq_of_pairwise (le := fun a b => SrtO.lexB b a = false) (fun a b _ _ g1 g2 => by
    have a1 := SrtO.lexB_no.mp g1
    have a2 := SrtO.lexB_no.mp g2
    exact Prod.ext (by omega) (by omega)) h1 h2
/-- the pairs of some data -/
def pof : List D → Option (List (Int × Int))
  | [] => some []
  | .tup [.int i, .int j] :: ds => (pof ds).map ((i, j) :: ·)
  | _ => none
def prD (p : Int × Int) : D := .tup [.int p.1, .int p.2]
theorem pof_eq : ∀ {ds : List D} {ps : List (Int × Int)}, pof ds = some ps → ds = ps.map prD
  | [], _, h => by cases h; rfl
  | d :: ds, ps, h => by
    unfold pof at h
    split at h
    · rename_i e; cases e
    · rename_i i j ds' e
      cases e
      cases q : pof ds with
      | none => rw [q] at h; cases h
      | some ms => rw [q] at h; cases h; simp [pof_eq q, prD]
    · cases h
@[simp] theorem pof_map (ps : List (Int × Int)) : pof (ps.map prD) = some ps := by
  induction ps with
  | nil => rfl
  | cons p ps ih =>
    rw [List.map_cons]
    show (pof (ps.map prD)).map _ = _
    rw [ih]; rfl
def gSrtP : List D → Option (D × Nat)
  | [.lst ds] => (pof ds).map fun ps => (.lst ((srtP ps).map prD), 9)
  | _ => none
/-- the two ints behind a pair -/
def kOf (H : Hp) (x : V) : Int × Int := match x with
  | .ref t => match H t with
    | some (.tup [.int i, .int j]) => (i, j)
    | _ => (0, 0)
  | _ => (0, 0)
theorem Rp.pairE {Z : Addr → Prop} {v : V} {p : Int × Int} (h : Rp K Z H v (prD p)) : ∃ t, v = .ref t ∧ H t = some (.tup [.int p.1, .int p.2]) := by
  cases h with
  | tup s r =>
    obtain ⟨x, y, rfl, h1, h2⟩ := r.two
    cases h1.intE
    cases h2.intE
    exact ⟨_, rfl, s⟩
theorem Rps.pairs {Z : Addr → Prop} : ∀ {vs : List V} {ps : List (Int × Int)}, Rps K Z H vs (ps.map prD) → vs.map (kOf H) = ps ∧ ∀ x ∈ vs, ∃ t, x = V.ref t ∧ H t = some (.tup [.int (kOf H x).1, .int (kOf H x).2])
  | _, [], h => by cases h; exact ⟨rfl, fun x m => by simp at m⟩
  | _, p :: ps, h => by
    cases h with
    | cons h t =>
      obtain ⟨u, rfl, hu⟩ := Rp.pairE h
      obtain ⟨e, q⟩ := Rps.pairs t
      have ek : kOf H (.ref u) = p := by simp [kOf, hu]
      refine ⟨by rw [List.map_cons, e, ek], fun x m => ?_⟩
      rcases List.mem_cons.mp m with rfl | m
      · exact ⟨u, rfl, by rw [ek]; exact hu⟩
      · exact q x m
theorem Rps.ofPairs {Z : Addr → Prop} : ∀ {vs : List V}, (∀ x ∈ vs, ∃ t, x = V.ref t ∧ H t = some (.tup [.int (kOf H x).1, .int (kOf H x).2])) → Rps K Z H vs ((vs.map (kOf H)).map prD)
  | [], _ => .nil
  | v :: vs, h => by
    obtain ⟨t, e, ht⟩ := h v List.mem_cons_self
    refine .cons ?_ (Rps.ofPairs fun x m => h x (List.mem_cons_of_mem _ m))
    rw [e] at ht ⊢
    exact .tup ht (.cons (.int _) (.cons (.int _) .nil))
theorem al_srtP : AL K (rSortedPO K) gSrtP := by
  intro Z H vs ds d n Q hz k e q
  unfold gSrtP at e
  split at e
  · rename_i ds
    cases e1 : pof ds with
    | none => rw [e1] at e; cases e
    | some ps =>
      rw [e1] at e
      cases e
      cases pof_eq e1
      obtain ⟨x, rfl, ⟨p, xs, rfl, hp, r⟩⟩ := k.one
      obtain ⟨ek, hx⟩ := r.pairs
      refine ⟨p, xs, kOf H, rfl, .inl (.inl hp), hx, fun ys p' so st hn => ?_⟩
      have hy : ∀ y ∈ ys, ∃ t, y = V.ref t ∧ H t = some (.tup [.int (kOf H y).1, .int (kOf H y).2]) := fun y hy => hx y (st.perm.mem_iff.mp hy)
      have ey : ys.map (kOf H) = srtP ps := srtP_uniq ((st.perm.map _).trans (by rw [ek]; exact (srtP_perm ps).symm)) (SrtO.srtd_map so) (srtP_pair ps)
      have ry := Rps.ofPairs (K := K) (Z := Z) hy
      rw [ey] at ry
      have lv : lev ((srtP ps).map prD) = 9 := by unfold lev; rw [imms_map _ (fun p => by simp [prD])]; rfl
      have := fin_lst (Q := Q) hz ry (by rw [lv]; exact q)
      exact this p' hn
  · cases e
section
variable {prg : Program} {wd : World} {Ar : Around} {EE : Value → Shared → Prop} {sh : Shared}
open PyProof.Rows in
theorem collect_tp {tp : Addr} {xs : List Value} {QQ : List Value → Shared → Prop} (isT : sh.heap.IsTuple tp xs.toArray) (sz : xs.length ≤ sizeLine)
    (qq : QQ xs { sh with heap := (sh.heap.push (seqObj "list" #[] 0)).update sh.heap.objs.size (Obj.mapSeq (· ++ xs.toArray)) }) :
    wpAny (model prg wd) Ar (collect (.ref tp)) QQ EE sh := by
  obtain ⟨ob, hob, cls, k, dat⟩ := isT
  have new0 : (sh.heap.push (seqObj "list" #[] 0)).get? sh.heap.objs.size = some (seqObj "list" #[] 0) := Heap.get?_push_size _ rfl
  have old0 : (sh.heap.push (seqObj "list" #[] 0)).get? tp = some ob := Heap.get?_push_of_some _ hob
  unfold collect
  refine wpAny_bind (wpAny_runValue
    (codeAny_builtin entry_proto_collect' ?_))
  show wpAny _ _
    (do again (.builtin "list.__iadd__" ⟨[← newList [], .ref tp], []⟩)) _ _ sh
  refine wpAny_bind (wpAny_newList (wpAny_pure
    ⟨Code.quiet_builtin _ (by decide +kernel), codeAny_builtin entry_list_iadd' ?_⟩))
  show wpAny _ _ (Builtin.List.listExtendWith (.ref sh.heap.objs.size)
    (.ref tp) (.ref sh.heap.objs.size)) _ _ { sh with heap := sh.heap.push (seqObj "list" #[] 0) }
  unfold Builtin.List.listExtendWith
  refine wpAny_bind (wpAny_typeOf (T := "tuple") ⟨ob, old0, cls⟩ ?_)
  have tt : (Value.type "tuple" == Value.type "tuple") = true := by rfl
  rw [if_pos (by rw [tt, Bool.or_true])]
  refine wpAny_bind (listItems_at old0 dat ?_)
  refine wpAny_bind (listItems_at (xs := #[]) (n := 0) new0 rfl ?_)
  rw [if_neg (by simp)]
  refine wpAny_bind (listUpdate_at (xs := #[]) (n := 0) new0 rfl ?_ (Nat.zero_le _)
    (by show (#[] ++ xs.toArray).size ≤ sizeLine + 1; simp only [Array.size_append, List.size_toArray, List.length_nil]; omega))
  refine wpAny_pure ?_
  show wpAny (model prg wd) Ar (do
      let o ← load sh.heap.objs.size
      match o.data with
      | .seq ys _ => pure ys.toList
      | _ => unsupported "internal:collect") QQ EE { sh with heap := (sh.heap.push (seqObj "list" #[] 0)).update sh.heap.objs.size (Obj.mapSeq (· ++ xs.toArray)) }
  refine wpAny_bind (wpAny_load (get?_update_seq new0 _) ?_)
  have ex : ((#[] : Array Value) ++ xs.toArray).toList = xs := by simp
  show wpAny _ _ (pure ((#[] : Array Value) ++ xs.toArray).toList) QQ EE _
  rw [ex]
  exact wpAny_pure qq
open PyProof.Rows in
theorem sorted_tp {tp : Addr} {xs : List Value} {lt : Value → Value → Bool} {QQ : Value → Shared → Prop} (O : SrtO.Swo lt) (isT : sh.heap.IsTuple tp xs.toArray) (sz : xs.length ≤ sizeLine)
    (able : 2 ≤ xs.length → ∀ (h₁ : Heap) (a : Addr), h₁.get? a = some (seqObj "list" xs.toArray 0) → (∀ b o, sh.heap.get? b = some o → b ≠ a ∧ h₁.get? b = some o) → SrtO.SortableO prg wd Ar.in1.in1 { sh with heap := h₁ } a xs lt)
    (qq : ∀ ys : List Value, SrtO.Srtd lt ys → SrtO.Stb lt ys xs → QQ (.ref (sh.heap.objs.size + 1)) { sh with heap := sortedAll sh.heap xs ys.toArray }) :
    wpAny (model prg wd) Ar (call (.builtin "sorted") [.ref tp]) QQ EE sh := by
  refine Calls.call_function_entry kind_sorted plain_sorted
    entry_sorted (args_sorted1 _) ?_
  unfold Builtin.«sorted»
  refine wpAny_bind
    (m := checkCount "sorted" 1 1 _) (wpAny_pure ?_)
  refine wpAny_bind (collect_tp isT sz ?_)
  refine wpAny_bind (wpAny_newList ?_ sz)
  have sz1 : ((sh.heap.push (seqObj "list" #[] 0)).update sh.heap.objs.size (Obj.mapSeq (· ++ xs.toArray))).objs.size = sh.heap.objs.size + 1 := by
    rw [Heap.size_update]; exact size_push' _ _
  have at1 : (((sh.heap.push (seqObj "list" #[] 0)).update sh.heap.objs.size (Obj.mapSeq (· ++ xs.toArray))).push (seqObj "list" xs.toArray 0)).get? (sh.heap.objs.size + 1) = some (seqObj "list" xs.toArray 0) := by
    have := Heap.get?_push_size ((sh.heap.push (seqObj "list" #[] 0)).update sh.heap.objs.size (Obj.mapSeq (· ++ xs.toArray))) (o := seqObj "list" xs.toArray 0) rfl
    rwa [sz1] at this
  have kp : ∀ b o, sh.heap.get? b = some o → b ≠ sh.heap.objs.size + 1 ∧ (((sh.heap.push (seqObj "list" #[] 0)).update sh.heap.objs.size (Obj.mapSeq (· ++ xs.toArray))).push (seqObj "list" xs.toArray 0)).get? b = some o := fun b o e => by
    have lt : b < sh.heap.objs.size := Heap.lt_size e
    have ne := Nat.ne_of_lt lt
    refine ⟨Nat.ne_of_lt (Nat.lt_succ_of_lt lt),
      Heap.get?_push_of_some _ ?_⟩
    rw [Heap.get?_update_ne _ _ _ _ ne]
    exact Heap.get?_push_of_some _ e
  show wpAny _ _ _ _ _ { sh with
    heap := ((sh.heap.push (seqObj "list" #[] 0)).update sh.heap.objs.size (Obj.mapSeq (· ++ xs.toArray))).push (seqObj "list" xs.toArray 0) }
  rw [sz1]
  refine wpAny_bind (wpAny_holding (wpAny_call_entry
    slot_list_sort ⟨_, at1, rfl⟩ entry_list_sort
    (SrtO.list_sort_ord O at1 sz (fun two => able two _ _ at1 kp) fun ys s1 s2 => ⟨_, rfl, ?_⟩) (args_list_sort _)))
  exact wpAny_pure ⟨_, rfl, qq ys s1 s2⟩
end
def rSrtT (K : PySem.W.Frag) : List V → Hp → VK → Prop := fun ws H Q => ∃ (b : Addr) (ns : List Int), ws = [.ref b] ∧ SqT K H b (ns.map V.int) ∧
    ∀ (ms : List Int) (q : Addr), ms.Perm ns → ms.Pairwise (· ≤ ·) → H q = none → Q (.ref q) (upd H q (.lst (ms.map V.int)))
theorem cr_srtT {X : Cx} : CallR X (.builtin "sorted") (rSrtT X.K) := by
  intro P' st sg G ws vs Q2 iv rs qq
  obtain ⟨b, ns, rfl, hs, qq⟩ := qq
  obtain ⟨us, rv, hl, hz⟩ := iv.tuple hs
  rw [Vals.ref1 rs]
  have hi := rv.ints
  have hz2 : us.length ≤ sizeLine := by rw [← rv.length]; exact hz
  refine sorted_tp SrtO.swo_int hl hz2 (fun two h₁ a' _ _ => SrtO.ints_sortable hi two) fun ys s1 s2 => ?_
  obtain ⟨o1, o2, o3⟩ := SrtO.ints_out hi s1 s2
  obtain ⟨ep, hh⟩ := PyProof.Rows.sortedAll_at st.heap us ys.toArray
  have ol : ((ys.map SrtO.iv).map V.int).length ≤ sizeLine := by
    rw [List.length_map, o2.length_eq]; rw [List.length_map] at hz; exact hz
  exact ⟨.ref _, upd G (st.heap.objs.size + 1) (.lst ((ys.map SrtO.iv).map V.int)),
    iv.laid (t' := st.toks) (fun _ _ => PyProof.Rows.sortedAll_old) (Nat.le_succ _) ⟨ol, ys, ep, vals_of_ints o1, hh⟩,
    rfl, qq _ _ o2 o3 (iv.hok.fresh (Nat.le_succ _))⟩
/-- sorted(t), t a tuple of ints -/
def gSrtT : List D → Option (D × Nat)
  | [.tup ds] => (iof ds).map fun ns => (.lst ((srt ns).map D.int), 9)
  | _ => none
theorem al_srtT : AL K (rSrtT K) gSrtT := by
  intro Z H vs ds d n Q hz k e q
  unfold gSrtT at e
  split at e
  · rename_i ds
    cases e1 : iof ds with
    | none => rw [e1] at e; cases e
    | some ns =>
      rw [e1] at e
      cases e
      cases iof_eq e1
      obtain ⟨x, rfl, h1⟩ := k.one
      cases h1 with
      | tup s r =>
        cases r.ints
        refine ⟨_, ns, rfl, .of s, fun ns' p' pm so hn => ?_⟩
        have e2 : ns' = srt ns := srt_uniq (pm.trans (srt_perm ns).symm) so (srt_pair ns)
        subst e2
        have := fin_lst (Q := Q) hz (Rps.ofInts (K := K) (Z := Z) (H := H) (srt ns)) (by rw [lev_ints]; exact q)
        exact this p' hn
  · cases e
def rSrtTP (K : PySem.W.Frag) : List V → Hp → VK → Prop := fun vs H Q => ∃ (b : Addr) (xs : List V) (k : V → Int × Int), vs = [V.ref b] ∧ SqT K H b xs ∧ (∀ x ∈ xs, ∃ t, x = V.ref t ∧ H t = some (.tup [.int (k x).1, .int (k x).2])) ∧
  ∀ ys q, SrtO.Srtd (ltP k) ys → SrtO.Stb (ltP k) ys xs → H q = none → Q (.ref q) (upd H q (.lst ys))
theorem cr_srtTP {X : Cx} : CallR X (.builtin "sorted") (rSrtTP X.K) := by
  intro P' st sg G ws vs Q2 iv rs qq
  obtain ⟨b, xs, kf, rfl, hs, each, qq⟩ := qq
  obtain ⟨us, rv, hl, hz⟩ := iv.tuple hs
  rw [Vals.ref1 rs]
  have hz2 : us.length ≤ sizeLine := by rw [← rv.length]; exact hz
  obtain ⟨e1, e2⟩ := refs_back rv fun x m => by
    obtain ⟨t, e, _⟩ := each x m
    exact ⟨t, e⟩
  have pairs : ∀ v ∈ us, ∃ t, v = Value.ref t ∧ G t = some (.tup [.int (kf (backV v)).1, .int (kf (backV v)).2]) := fun v hv => by
    obtain ⟨t, rfl⟩ := e2 v hv
    have hm : V.ref t ∈ xs := by rw [e1]; exact List.mem_map.mpr ⟨_, hv, rfl⟩
    obtain ⟨t', e, ht⟩ := each _ hm
    cases e
    exact ⟨t, rfl, ht⟩
  have old : ∀ v ∈ us, Srt.IsPair st.heap v (kf (backV v)).1 (kf (backV v)).2 := fun v hv => by
    obtain ⟨t, rfl, ht⟩ := pairs v hv
    obtain ⟨_, its2, r2, o, ho, hc, n, hd⟩ := iv.hok _ _ ht
    obtain ⟨u1, u2, rfl, ri, rj⟩ := vals2 r2
    obtain ⟨t1, rfl⟩ := ri
    obtain ⟨t2, rfl⟩ := rj
    exact ⟨t, o, t1, t2, n, rfl, ho, hc, hd⟩
  refine sorted_tp (lt := fun v u => SrtO.lexB (kf (backV v)) (kf (backV u))) (SrtO.swo_lex fun u => kf (backV u)) hl hz2 (fun two h₁ a' ea kp => ?_) fun ys s1 s2 => ?_
  · refine SrtO.pairs_sortableO (s := { st with heap := h₁ }) (by omega) (fun v hv => ?_) fun o e => ?_
    · exact (old v hv).keeps fun c o e _ => (kp c o e).2
    · have e' : some o = some (seqObj "list" us.toArray 0) := e.symm.trans ea
      cases e'
      intro c
      exact absurd (Value.type.inj c) (by decide)
  · have h3 : ∀ u ∈ ys, ∃ a, u = Value.ref a := fun u hu => e2 u (s2.perm.mem_iff.mp hu)
    obtain ⟨ep, hh⟩ := PyProof.Rows.sortedAll_at st.heap us ys.toArray
    have hb : SrtO.Stb (ltP kf) (ys.map backV) xs := by
      rw [e1]
      exact SrtO.Stb.map (ltP_swo kf) backV s2
    have ol : (ys.map backV).length ≤ sizeLine := by rw [hb.len]; exact hz
    exact ⟨.ref _, upd G (st.heap.objs.size + 1) (.lst (ys.map backV)),
      iv.laid (t' := st.toks) (fun _ _ => PyProof.Rows.sortedAll_old) (Nat.le_succ _) ⟨ol, ys, ep, vals_back h3, hh⟩,
      rfl, qq _ _ (SrtO.srtd_map s1) hb (iv.hok.fresh (Nat.le_succ _))⟩
def gSrtTP : List D → Option (D × Nat)
  | [.tup ds] => (pof ds).map fun ps => (.lst ((srtP ps).map prD), 9)
  | _ => none
theorem al_srtTP : AL K (rSrtTP K) gSrtTP := by
  intro Z H vs ds d n Q hz k e q
  unfold gSrtTP at e
  split at e
  · rename_i ds
    cases e1 : pof ds with
    | none => rw [e1] at e; cases e
    | some ps =>
      rw [e1] at e
      cases e
      cases pof_eq e1
      obtain ⟨x, rfl, h1⟩ := k.one
      cases h1 with
      | tup s r =>
        obtain ⟨ek, hx⟩ := r.pairs
        refine ⟨_, _, kOf H, rfl, .of s, hx, fun ys p' so st hn => ?_⟩
        have hy : ∀ y ∈ ys, ∃ t, y = V.ref t ∧ H t = some (.tup [.int (kOf H y).1, .int (kOf H y).2]) := fun y hy => hx y (st.perm.mem_iff.mp hy)
        have ey : ys.map (kOf H) = srtP ps := srtP_uniq ((st.perm.map _).trans (by rw [ek]; exact (srtP_perm ps).symm)) (SrtO.srtd_map so) (srtP_pair ps)
        have ry := Rps.ofPairs (K := K) (Z := Z) hy
        rw [ey] at ry
        have lv : lev ((srtP ps).map prD) = 9 := by unfold lev; rw [imms_map _ (fun p => by simp [prD])]; rfl
        have := fin_lst (Q := Q) hz ry (by rw [lv]; exact q)
        exact this p' hn
  · cases e
/-- sorted(t), t a tuple -/
def gSrtTT : List D → Option (D × Nat) := fun ds => match ds with
  | [.tup xs] => if (iof xs).isSome = true then gSrtT ds else gSrtTP ds
  | _ => none
def gSrtIP : List D → Option (D × Nat) := fun ds => match ds with
  | [.lst xs] => if (iof xs).isSome = true then gSrtI ds else gSrtP ds
  | _ => gSrtI ds
def gSrt1 : List D → Option (D × Nat) := fun ds => match ds with
  | [.dK _] => gSrtD ds
  | [.tup _] => gSrtTT ds
  | _ => gSrtIP ds
end
section
variable {X : Cx} {e e2 : Expr} {fe fk : Fe} {pos pos' px pt : PySem.Pos} {w : List Nat} {x : Str} {op : Operator} {f : Int → Int → Int}
theorem ae_dicT : AE X (.Dict [] [] pos) mDicT := PE.mono pe_dnewT fun _ _ _ q => dicT_of q
end
end Zk
namespace Zk
open PySem PySem.Spec PyProof.Rows L2

section
variable {P : Program} {w : World} {K : PySem.W.Frag} {mg : Str → Option Value} {base : Heap} {X : Cx}
theorem _root_.L2.Room.u1 {k : Nat} {A : Around} (hr : Room k A) : A.units + 1 < cLine := by have := hr.un; omega
theorem _root_.L2.Room.u64 {k : Nat} {A : Around} (hr : Room k A) : A.units + 64 < cLine := by have := hr.un; omega
theorem _root_.L2.Room.u65 {k : Nat} {A : Around} (hr : Room k A) : A.units + 65 < cLine := by have := hr.un; omega
/-- a def under its name, with its promise -/
def Ok (P : Program) (w : World) (K : PySem.W.Frag) (mg : Str → Option Value) (base : Heap) (k : Nat) (x : Str) (ps : List Str) (io : Option Nat) (np : Nat) (M : Mir) : Prop :=
  ∃ (f : Addr) (fd : FuncData), FnOk P w K mg base CX0 k f fd ps (spM K io np M) ∧ mg x = some (.ref f) ∧ PySem.W.keepIn K (.ref f) = true ∧ Binds K fd ps []
theorem Ok.mono {j k : Nat} {x : Str} {ps : List Str} {io : Option Nat} {np : Nat} {M : Mir} (o : Ok P w K mg base j x ps io np M) (h : j ≤ k) : Ok P w K mg base k x ps io np M := by
  obtain ⟨f, fd, F, a, b, c⟩ := o
  exact ⟨f, fd, F.mono h, a, b, c⟩
theorem fn_none {k : Nat} {f : Addr} {fd : FuncData} {ps : List Str} {io : Option Nat} {np : Nat} {M : Mir} (h : ∀ ds, M ds = none) : FnOk P w K mg base CX0 k f fd ps (spM K io np M) :=
  have no : ∀ {vs : List V} {H : Hp} {Q : VK} {E : XK}, spM K io np M vs H Q E → False := fun ⟨_, ds, _, _, _, _, _, _, _, d, n, o, e, _⟩ => by rw [h ds] at e; cases e
  ⟨fun vs H Q E q => (no q).elim, fun A outer s H args us vs Q E _ _ _ _ q => (no q).elim⟩
variable {k np : Nat} {ps : List Str} {x : Str} {p pos : PySem.Pos} {e : Expr} {es : List Expr} {fa : Fa} {M : Mir} {io : Option Nat}
/-- f(e, ..) -/
theorem ae_fn (o : Ok X.prog X.w X.K X.mg X.base k x ps io np M) (hr : Room k X.A) (hg : Gl X x) (ha : AA X (e :: es) fa)
    (hnp : ∀ E os E', fa E = some (os, E') → os.length = np) (hdb : (x == ("__debug__" : Str)) = false := by decide) (he : starEach (e :: es) X.env = (false, eval e X.env) :: starEach es X.env := by rfl) (hpl : (backTo pos (starEach es X.env)).any (·.1) = false := by rfl) :
    AE X (.Call (.Name x p) (e :: es) [] pos) (mCall io M fa) := by
  obtain ⟨f, fd, F, a, b, c⟩ := o
  exact ae_call F hr hg a b c ha hnp hdb he hpl
/-- the law's promise -/
theorem law_sp {M : Mir} {H : Hp} {a : Addr} {ns : List Int} {n : Nat} (h : ∀ ns : List Int, ns.length ≤ n → ∃ m o, M [.scr ns] = some (.bl true, m, o)) (hl : ns.length ≤ n) (hO : Only H) (hS : SqL K H a (ns.map V.int)) :
    spM K none 1 M [.ref a] H (fun v _ => v = .bl true) fun _ _ _ => False := by
  obtain ⟨m, o, e⟩ := h ns hl
  refine ⟨fun _ => False, [.scr ns], fun _ => [], rfl, rfl, fun a h => h.elim, fun i v d hv hd => ?_, fun _ _ => rfl, fun _ => List.nodup_nil, .bl true, m, o, e, fun v Z' H' rs' rr _ _ _ _ _ ow _ => ?_⟩
  · cases i with
    | zero =>
      cases hv
      cases hd
      rw [if_neg (by simp)]
      refine .scr ?_
      unfold SqF
      rcases hS with (h | ⟨o, h⟩) | h
      · rcases hO a with z | ⟨o, xs, z⟩
        · rw [z] at h; cases h
        · rw [z] at h; cases h
      · exact .inl ⟨o, h⟩
      · exact .inr h
    | succ i => simp at hv
  · exact (ow.imm (by simp)).2.blE
end
section
variable {K : PySem.W.Frag} {Z Z' Zf Z0 : Addr → Prop} {H H' H0 : Hp} {σ : L2.St} {E E' : Ev} {R R' R0 : Rs}
instance (a b : Int) : Decidable (RgOk a b) := inferInstanceAs (Decidable (_ ∧ _))
theorem rgV_rng {K : PySem.W.Frag} {Z : Addr → Prop} {H : Hp} (a b : Int) : Rps K Z H (rgV a b) (rng a (b - a).toNat) := by
  have e : rgV a b = ((List.range (b - a).toNat).map fun k => a + ((k : Nat) : Int)).map V.int := by unfold rgV; rw [List.map_map]; rfl
  have e2 : rng a (b - a).toNat = ((List.range (b - a).toNat).map fun k => a + ((k : Nat) : Int)).map D.int := by unfold rng; rw [List.map_map]; rfl
  rw [e, e2]
  exact Rps.ofInts _
theorem lev_rng (a : Int) (n : Nat) : lev (rng a n) = 9 := by
  have e2 : rng a n = ((List.range n).map fun k => a + ((k : Nat) : Int)).map D.int := by unfold rng; rw [List.map_map]; rfl
  rw [e2]; exact lev_ints _
def gLrg : List D → Option (D × Nat)
  | [.int j] => if RgOk 0 j then some (.lst (rng 0 j.toNat), 9) else none
  | [.int i, .int j] => if RgOk i j then some (.lst (rng i (j - i).toNat), 9) else none
  | _ => none
def gTrg : List D → Option (D × Nat)
  | [.int j] => if RgOk 0 j then some (.tup (rng 0 j.toNat), 0) else none
  | [.int i, .int j] => if RgOk i j then some (.tup (rng i (j - i).toNat), 0) else none
  | _ => none
def rLrg : List V → Hp → VK → Prop := fun xs H Q => (∃ j, xs = [.int j] ∧ RgOk 0 j ∧ ∀ q, H q = none → Q (.ref q) (upd H q (.lst (rgV 0 j)))) ∨ ∃ i j, xs = [.int i, .int j] ∧ RgOk i j ∧ ∀ q, H q = none → Q (.ref q) (upd H q (.lst (rgV i j)))
def rTrg : List V → Hp → VK → Prop := fun xs H Q => (∃ j, xs = [.int j] ∧ RgOk 0 j ∧ ∀ q, H q = none → Q (.ref q) (upd H q (.tup (rgV 0 j)))) ∨ ∃ i j, xs = [.int i, .int j] ∧ RgOk i j ∧ ∀ q, H q = none → Q (.ref q) (upd H q (.tup (rgV i j)))
theorem al_lrg : AL K rLrg gLrg := by
  intro Z H vs ds d n Q hz k e q
  unfold gLrg at e
  split at e
  · rename_i j
    split at e
    · rename_i ok
      cases e
      obtain ⟨x, rfl, h1⟩ := k.one
      cases Rp.intE h1
      refine .inl ⟨j, rfl, ok, ?_⟩
      have r := rgV_rng (K := K) (Z := Z) (H := H) 0 j
      rw [Int.sub_zero] at r
      exact fin_lst (Q := Q) hz r (by rw [lev_rng]; exact q)
    · cases e
  · rename_i i j
    split at e
    · rename_i ok
      cases e
      obtain ⟨x, y, rfl, h1, h2⟩ := k.two
      cases Rp.intE h1
      cases Rp.intE h2
      exact .inr ⟨i, j, rfl, ok, fin_lst (Q := Q) hz (rgV_rng (K := K) (Z := Z) (H := H) i j) (by rw [lev_rng]; exact q)⟩
    · cases e
  · cases e
theorem al_trg : AL K rTrg gTrg := by
  intro Z H vs ds d n Q hz k e q
  unfold gTrg at e
  split at e
  · rename_i j
    split at e
    · rename_i ok
      cases e
      obtain ⟨x, rfl, h1⟩ := k.one
      cases Rp.intE h1
      refine .inl ⟨j, rfl, ok, ?_⟩
      have r := rgV_rng (K := K) (Z := Z) (H := H) 0 j
      rw [Int.sub_zero] at r
      exact fin_tup (Q := Q) r q
    · cases e
  · rename_i i j
    split at e
    · rename_i ok
      cases e
      obtain ⟨x, y, rfl, h1, h2⟩ := k.two
      cases Rp.intE h1
      cases Rp.intE h2
      exact .inr ⟨i, j, rfl, ok, fin_tup (Q := Q) (rgV_rng (K := K) (Z := Z) (H := H) i j) q⟩
    · cases e
  · cases e
end
section
variable {X : Cx} {e e2 a b : Expr} {fe fk : Fe} {fa : Fa} {pos pos' px py pt : PySem.Pos} {x y : Str} {kt k2 : Nat} {pt2 p p2 : PySem.Pos}
theorem call_minA (hc : X.calm = true := by rfl) : CallR X (.builtin "min") (rMins X.K) := (cr_min hc).or (call_min2 hc)
theorem call_anyA (hc : X.calm = true := by rfl) : CallR X (.builtin "any") (rAny X.K) := cr_any hc
theorem call_isiA : CallR X (.builtin "isinstance") (fun vs H Q => rIsi X.K vs H Q ∨ rIsiT X.K vs H Q ∨ rIsiK X.K vs H Q) := call_isi.or (call_isiT.or call_isiK)
def gSrtDT : List D → Option (D × Nat) := fun ds => match ds with
  | [.dK _] => gSrtD ds
  | _ => gSrtTT ds
def mSrt (a : Fe) : Fe := mOp gSrt1 (mAc a mA0)
theorem ae_srt {x : Str} (hg : Gl X x) (hm : X.mg x = none) (ha : AE X a fe) (hx : bootBuiltins x = some (.builtin "sorted") := by exact boot_sorted) (hc : X.calm = true := by rfl) (hn : x ≠ "__name__" := by decide) (hdb : (x == ("__debug__" : Str)) = false := by decide)
    (he : starEach [a] X.env = (false, eval a X.env) :: starEach [] X.env := by rfl) (hpl : (backTo pos (starEach [] X.env)).any (·.1) = false := by rfl) : AE X (.Call (.Name x p) [a] [] pos) (mSrt fe) :=
  PE.mono (PE.or (PE.or (PE.or (PE.or (pe_callB cr_sortedI hg hm hx (aa_cons ha aa_nil he) hn hdb he hpl) (pe_callB cr_sortedPO hg hm hx (aa_cons ha aa_nil he) hn hdb he hpl)) (pe_callB (cr_srtD hc) hg hm hx (aa_cons ha aa_nil he) hn hdb he hpl)) (pe_callB cr_srtT hg hm hx (aa_cons ha aa_nil he) hn hdb he hpl)) (pe_callB cr_srtTP hg hm hx (aa_cons ha aa_nil he) hn hdb he hpl)) fun σ H Q q => by
    have sp : ∀ ds, gSrt1 ds = gSrtIP ds ∨ gSrt1 ds = gSrtDT ds := fun ds => by
      unfold gSrt1 gSrtDT
      split
      · exact .inr rfl
      · exact .inr rfl
      · exact .inl rfl
    have sp3 : ∀ ds, gSrtDT ds = gSrtD ds ∨ gSrtDT ds = gSrtTT ds := fun ds => by
      unfold gSrtDT
      split
      · exact .inl rfl
      · exact .inr rfl
    have sp2 : ∀ ds, gSrtIP ds = gSrtI ds ∨ gSrtIP ds = gSrtP ds := fun ds => by
      unfold gSrtIP
      split
      · split
        · exact .inl rfl
        · exact .inr rfl
      · exact .inl rfl
    rcases op_split sp q with q | q
    · rcases op_split sp2 q with q | q
      · exact .inl (.inl (.inl (.inl (op_of al_srtI q))))
      · exact .inl (.inl (.inl (.inr (op_of al_srtP q))))
    · rcases op_split sp3 q with q | q
      · exact .inl (.inl (.inr (op_of al_srtD q)))
      · have sp4 : ∀ ds, gSrtTT ds = gSrtT ds ∨ gSrtTT ds = gSrtTP ds := fun ds => by
          unfold gSrtTT
          split
          · split
            · exact .inl rfl
            · exact .inr rfl
          · rename_i hne
            refine .inl ?_
            unfold gSrtT
            split
            · rename_i xs
              exact absurd rfl (hne xs)
            · rfl
        rcases op_split sp4 q with q | q
        · exact .inl (.inr (op_of al_srtT q))
        · exact .inr (op_of al_srtTP q)
def mLrg1 (a : Fe) : Fe := mOp gLrg (mA1 a)
def mTrg1 (a : Fe) : Fe := mOp gTrg (mA1 a)
theorem ae_lrg1 (ha : AE X a fe) (hg : Gl X "list") (hm : X.mg "list" = none) (hg2 : Gl X "range") (hm2 : X.mg "range" = none) (hc : X.calm = true := by rfl) (na : starEach [a] X.env = (false, eval a X.env) :: starEach [] X.env := by rfl)
    (nb : starEach [.Call (.Name "range" p2) [a] [] pos'] X.env = (false, eval (.Call (.Name "range" p2) [a] [] pos') X.env) :: starEach [] X.env := by rfl) : AE X (.Call (.Name "list" p) [.Call (.Name "range" p2) [a] [] pos'] [] pos) (mLrg1 fe) :=
  PE.mono (pe_listRg hc hg hm (prg_1 hg2 hm2 ha na) nb) fun σ H Q q => eOf_imp (fun v H1 q => by
    rcases q with ⟨j, e, ok, q⟩ | ⟨i, j, e, _⟩
    · cases e; exact ⟨j, rfl, ok, q⟩
    · cases e) (aOf_1 (op_of al_lrg q))
theorem ae_trg1 (ha : AE X a fe) (hg : Gl X "tuple") (hm : X.mg "tuple" = none) (hg2 : Gl X "range") (hm2 : X.mg "range" = none) (hc : X.calm = true := by rfl) (na : starEach [a] X.env = (false, eval a X.env) :: starEach [] X.env := by rfl)
    (nb : starEach [.Call (.Name "range" p2) [a] [] pos'] X.env = (false, eval (.Call (.Name "range" p2) [a] [] pos') X.env) :: starEach [] X.env := by rfl) : AE X (.Call (.Name "tuple" p) [.Call (.Name "range" p2) [a] [] pos'] [] pos) (mTrg1 fe) :=
  PE.mono (pe_tupRg hc hg hm (prg_1 hg2 hm2 ha na) nb) fun σ H Q q => eOf_imp (fun v H1 q => by
    rcases q with ⟨j, e, ok, q⟩ | ⟨i, j, e, _⟩
    · cases e; exact ⟨j, rfl, ok, q⟩
    · cases e) (aOf_1 (op_of al_trg q))
end
end Zk
namespace Zk
open PySem PySem.Spec PyProof.Rows L2

structure Tg {α : Type} (Q : α → Prop) : Type where
/-- x tells something of which Q holds (the tag keeps simp out of Q until x is reckoned) -/
def W {α : Type} (x : Option α) (Q : α → Prop) (_ : Tg Q := ⟨⟩) : Prop := ∃ a, x = some a ∧ Q a
structure Tg2 (A B : Prop) : Type where
section
variable {α β : Type} {x : Option α} {Q Q' : β → Prop} {P P' : α → Prop}
@[simp ↓] theorem W_some {a : α} : W (some a) P ↔ P a := ⟨fun ⟨_, e, h⟩ => by cases e; exact h, fun h => ⟨_, rfl, h⟩⟩
@[simp ↓] theorem W_none : W (none : Option α) P ↔ False := by
  constructor
  · rintro ⟨_, e, _⟩
    cases e
  · intro h
    exact h.elim
@[simp ↓] theorem W_bind {f : α → Option β} : W (x.bind f) Q ↔ W x fun a => W (f a) Q := by
  cases x with
  | none => simp
  | some a => simp
@[simp ↓] theorem W_map {f : α → β} : W (x.map f) Q ↔ W x fun a => Q (f a) := by
  cases x with
  | none => simp
  | some a => simp
theorem W_ite {c : Prop} [Decidable c] {a b : Option α} : W (if c then a else b) P ↔ (c → W a P) ∧ (¬ c → W b P) := by
  by_cases h : c <;> simp [h]
@[simp ↓] theorem W_if1 {c : Prop} [Decidable c] {a : Option α} : W (if c then a else none) P ↔ c ∧ W a P := by
  by_cases h : c <;> simp [h]
theorem W_ext (h : ∀ a, P a ↔ P' a) : W x P ↔ W x P' := ⟨fun ⟨a, e, p⟩ => ⟨a, e, (h a).mp p⟩, fun ⟨a, e, p⟩ => ⟨a, e, (h a).mpr p⟩⟩
/-- one of two -/
def IfB (b : Bool) (A B : Prop) (_ : Tg2 A B := ⟨⟩) : Prop := (b = true → A) ∧ (b = false → B)
@[simp ↓] theorem IfB_t {A B : Prop} : IfB true A B ↔ A := by simp [IfB]
@[simp ↓] theorem IfB_f {A B : Prop} : IfB false A B ↔ B := by simp [IfB]
@[simp] theorem IfB_not {b : Bool} {A B : Prop} : IfB (!b) A B ↔ IfB b B A := by cases b <;> simp
@[simp 50] theorem IfB_of {b : Bool} {A B : Prop} : IfB b A B ↔ (b = true → A) ∧ (b = false → B) := Iff.rfl
@[simp 60] theorem IfB_d {c : Prop} [Decidable c] {A B : Prop} : IfB (decide c) A B ↔ (c → A) ∧ (¬ c → B) := by simp [IfB]
theorem W_iteB {b : Bool} {u v : Option α} : W (if b = true then u else v) P ↔ IfB b (W u P) (W v P) := by cases b <;> simp [W_ite]
theorem W.mono (h : W x P) (m : ∀ a, P a → P' a) : W x P' := by
  obtain ⟨a, e, p⟩ := h
  exact ⟨a, e, m a p⟩
theorem W.mp (h : W x P) : ∃ a, x = some a ∧ P a := h
theorem W.of {a : α} (h : x = some a) (p : P a) : W x P := ⟨a, h, p⟩
theorem W.eq {a : α} (h : x = some a) : W x P ↔ P a := by rw [h, W_some]
end
section
variable {E : Ev} {i n m : Nat} {d : D} {p : Option (D × Nat)} {l : Ev} {a b c : Fe} {fa : Fa} {ft fu : Ft} {s t : Fs} {it : Fi} {g : Fg} {gs : List D → Ev → Option Ev}
  {G : List D → Option D} {G2 : List D → Option (D × Nat)} {M : Mir} {os : List Op} {o : Op} {Qe : Op × Ev → Prop} {Qa : List Op × Ev → Prop} {Qt : Bool × Ev → Prop} {Qs : Fl × Ev → Prop} {Qi : List D × Ev → Prop} {Qg : Ev → Prop} {Qd : D → Prop} {Ql : List D → Prop} {Qk : D × Nat × Ev → Prop}
@[simp] theorem get_z {α : Type} {a : α} {l : List α} : (a :: l)[0]? = some a := rfl
@[simp] theorem get_s {α : Type} {a : α} {l : List α} : (a :: l)[n + 1]? = l[n]? := rfl
@[simp] theorem eg_0 : eg (p :: l) 0 = p := rfl
@[simp] theorem eg_s : eg (p :: l) (n + 1) = eg l n := rfl
@[simp] theorem eg_nil : eg [] n = none := by simp [eg]
@[simp ↓] theorem W_var : W (mVar i E) Qe ↔ (eg E i).isSome = true ∧ Qe (.slot i, E) := by unfold mVar; (repeat (first | exact Iff.rfl | (refine W_ext fun _ => ?_) | (refine W_bind.trans (W_ext fun _ => ?_)) | exact W_map | exact W_if1.trans Iff.rfl | (simp [W_ite, IfB]; done) | simp))
@[simp ↓] theorem W_c : W (mC d E) Qe ↔ Qe (.val d 9, E) := by unfold mC; (repeat (first | exact Iff.rfl | (refine W_ext fun _ => ?_) | (refine W_bind.trans (W_ext fun _ => ?_)) | exact W_map | exact W_if1.trans Iff.rfl | (simp [W_ite, IfB]; done) | simp))
@[simp ↓] theorem W_ro : W (mRO G fa E) Qe ↔ W (fa E) fun p => W (rdL p.2 p.1) fun ds => W (G ds) fun d => Qe (.val d 9, p.2) := by unfold mRO; (repeat (first | exact Iff.rfl | (refine W_ext fun _ => ?_) | (refine W_bind.trans (W_ext fun _ => ?_)) | exact W_map | exact W_if1.trans Iff.rfl | (simp [W_ite, IfB]; done) | simp))
@[simp ↓] theorem W_al : W (mAL G2 fa E) Qe ↔ W (fa E) fun p => W (akL p.2 p.1) fun q => W (G2 q.1) fun d => Qe (.val d.1 d.2, q.2) := by unfold mAL; (repeat (first | exact Iff.rfl | (refine W_ext fun _ => ?_) | (refine W_bind.trans (W_ext fun _ => ?_)) | exact W_map | exact W_if1.trans Iff.rfl | (simp [W_ite, IfB]; done) | simp))
@[simp ↓] theorem W_op : W (mOp G2 fa E) Qe ↔ W (fa E) fun p => W (rdL p.2 p.1) fun ds => W (G2 ds) fun d => IfB (imm d.1) (Qe (.val d.1 9, p.2)) (W (akL p.2 p.1) fun q => Qe (.val d.1 d.2, q.2)) := by
  unfold mOp
  simp only [W_bind, W_iteB, W_some, W_map]
  try (repeat (first | exact Iff.rfl | (refine W_ext fun _ => ?_) | (refine W_bind.trans (W_ext fun _ => ?_)) | exact W_map | exact W_if1.trans Iff.rfl | (simp [W_ite, IfB]; done) | simp))
@[simp ↓] theorem W_a0 : W (mA0 E) Qa ↔ Qa ([], E) := by unfold mA0; (repeat (first | exact Iff.rfl | (refine W_ext fun _ => ?_) | (refine W_bind.trans (W_ext fun _ => ?_)) | exact W_map | exact W_if1.trans Iff.rfl | (simp [W_ite, IfB]; done) | simp))
@[simp ↓] theorem W_a1 : W (mA1 a E) Qa ↔ W (a E) fun p => Qa ([p.1], p.2) := by unfold mA1; (repeat (first | exact Iff.rfl | (refine W_ext fun _ => ?_) | (refine W_bind.trans (W_ext fun _ => ?_)) | exact W_map | exact W_if1.trans Iff.rfl | (simp [W_ite, IfB]; done) | simp))
@[simp ↓] theorem W_a2 : W (mA2 a b E) Qa ↔ W (a E) fun p => W (b p.2) fun q => Qa ([p.1, q.1], q.2) := by unfold mA2; (repeat (first | exact Iff.rfl | (refine W_ext fun _ => ?_) | (refine W_bind.trans (W_ext fun _ => ?_)) | exact W_map | exact W_if1.trans Iff.rfl | (simp [W_ite, IfB]; done) | simp))
@[simp ↓] theorem W_ac : W (mAc a fa E) Qa ↔ W (a E) fun p => W (fa p.2) fun q => Qa (p.1 :: q.1, q.2) := by unfold mAc; (repeat (first | exact Iff.rfl | (refine W_ext fun _ => ?_) | (refine W_bind.trans (W_ext fun _ => ?_)) | exact W_map | exact W_if1.trans Iff.rfl | (simp [W_ite, IfB]; done) | simp))
@[simp ↓] theorem W_rdL_nil : W (rdL E []) Ql ↔ Ql [] := by simp [rdL]; try (repeat (first | exact Iff.rfl | (refine W_ext fun _ => ?_) | (refine W_bind.trans (W_ext fun _ => ?_)) | exact W_map | exact W_if1.trans Iff.rfl | (simp [W_ite, IfB]; done) | simp))
@[simp ↓] theorem W_rdL_cons : W (rdL E (o :: os)) Ql ↔ W (rd E o) fun d => W (rdL E os) fun ds => Ql (d :: ds) := by simp [rdL]; try (repeat (first | exact Iff.rfl | (refine W_ext fun _ => ?_) | (refine W_bind.trans (W_ext fun _ => ?_)) | exact W_map | exact W_if1.trans Iff.rfl | (simp [W_ite, IfB]; done) | simp))
@[simp ↓] theorem W_rd_val : W (rd E (.val d n)) Qd ↔ Qd d := by simp [rd]; try (repeat (first | exact Iff.rfl | (refine W_ext fun _ => ?_) | (refine W_bind.trans (W_ext fun _ => ?_)) | exact W_map | exact W_if1.trans Iff.rfl | (simp [W_ite, IfB]; done) | simp))
@[simp ↓] theorem W_rd_slot : W (rd E (.slot i)) Qd ↔ W (eg E i) fun p => Qd p.1 := by simp [rd]; try (repeat (first | exact Iff.rfl | (refine W_ext fun _ => ?_) | (refine W_bind.trans (W_ext fun _ => ?_)) | exact W_map | exact W_if1.trans Iff.rfl | (simp [W_ite, IfB]; done) | simp))
@[simp ↓] theorem W_akL_nil {Q : List D × Ev → Prop} : W (akL E []) Q ↔ Q ([], E) := by simp [akL]; try (repeat (first | exact Iff.rfl | (refine W_ext fun _ => ?_) | (refine W_bind.trans (W_ext fun _ => ?_)) | exact W_map | exact W_if1.trans Iff.rfl | (simp [W_ite, IfB]; done) | simp))
@[simp ↓] theorem W_akL_cons {Q : List D × Ev → Prop} : W (akL E (o :: os)) Q ↔ W (ak E o) fun p => W (akL p.2 os) fun q => Q (p.1 :: q.1, q.2) := by simp [akL]; try (repeat (first | exact Iff.rfl | (refine W_ext fun _ => ?_) | (refine W_bind.trans (W_ext fun _ => ?_)) | exact W_map | exact W_if1.trans Iff.rfl | (simp [W_ite, IfB]; done) | simp))
@[simp ↓] theorem W_ak_val {Q : D × Ev → Prop} : W (ak E (.val d n)) Q ↔ Q (d, E) := by simp [ak]; try (repeat (first | exact Iff.rfl | (refine W_ext fun _ => ?_) | (refine W_bind.trans (W_ext fun _ => ?_)) | exact W_map | exact W_if1.trans Iff.rfl | (simp [W_ite, IfB]; done) | simp))
@[simp ↓] theorem W_ak_slot {Q : D × Ev → Prop} : W (ak E (.slot i)) Q ↔ W (eg E i) fun p => IfB (imm p.1 || flat p.1 || decide (p.2 ≤ 1)) (Q (p.1, E)) (Q (p.1, E.set i (some (p.1, 0)))) := by
  unfold ak
  cases h : eg E i with
  | none => simp [h]
  | some p =>
    obtain ⟨d, n⟩ := p
    simp only [h, W_some, W_ite, IfB, Bool.or_eq_true, decide_eq_true_eq, Bool.or_eq_false_iff, decide_eq_false_iff_not, not_or, Bool.not_eq_true, or_assoc, and_assoc]
@[simp ↓] theorem W_tk_val : W (tk E (.val d n)) Qk ↔ Qk (d, n, E) := by simp [tk]; try (repeat (first | exact Iff.rfl | (refine W_ext fun _ => ?_) | (refine W_bind.trans (W_ext fun _ => ?_)) | exact W_map | exact W_if1.trans Iff.rfl | (simp [W_ite, IfB]; done) | simp))
@[simp ↓] theorem W_tk_slot : W (tk E (.slot i)) Qk ↔ W (eg E i) fun p => IfB (imm p.1) (Qk (p.1, 9, E)) (Qk (p.1, 0, E.set i (some (p.1, 0)))) := by
  unfold tk
  cases h : eg E i with
  | none => simp [h]
  | some p =>
    obtain ⟨d, n⟩ := p
    simp only [h, W_some, W_iteB]
    cases imm d <;> simp
@[simp ↓] theorem W_mv_val : W (mv E (.val d n)) Qk ↔ Qk (d, n, E) := by simp [mv]; try (repeat (first | exact Iff.rfl | (refine W_ext fun _ => ?_) | (refine W_bind.trans (W_ext fun _ => ?_)) | exact W_map | exact W_if1.trans Iff.rfl | (simp [W_ite, IfB]; done) | simp))
@[simp ↓] theorem W_mv_slot : W (mv E (.slot i)) Qk ↔ W (eg E i) fun p => IfB (imm p.1) (Qk (p.1, 9, E)) (Qk (p.1, p.2, E.set i none)) := by
  unfold mv
  cases h : eg E i with
  | none => simp [h]
  | some p =>
    obtain ⟨d, n⟩ := p
    simp only [h, W_some, W_iteB]
    cases imm d <;> simp
@[simp ↓] theorem W_tkL_nil {Q : List (D × Nat) × Ev → Prop} : W (tkL E []) Q ↔ Q ([], E) := by simp [tkL]; try (repeat (first | exact Iff.rfl | (refine W_ext fun _ => ?_) | (refine W_bind.trans (W_ext fun _ => ?_)) | exact W_map | exact W_if1.trans Iff.rfl | (simp [W_ite, IfB]; done) | simp))
@[simp ↓] theorem W_tkL_cons {Q : List (D × Nat) × Ev → Prop} : W (tkL E (o :: os)) Q ↔ W (tk E o) fun p => W (tkL p.2.2 os) fun q => Q ((p.1, p.2.1) :: q.1, q.2) := by simp [tkL]; try (repeat (first | exact Iff.rfl | (refine W_ext fun _ => ?_) | (refine W_bind.trans (W_ext fun _ => ?_)) | exact W_map | exact W_if1.trans Iff.rfl | (simp [W_ite, IfB]; done) | simp))
@[simp ↓] theorem W_add : W (mAdd a b E) Qe ↔ W (mAL gAdd (mA2 a b) E) Qe := Iff.rfl
@[simp ↓] theorem W_mul : W (mMul a b E) Qe ↔ W (mAL gMul (mA2 a b) E) Qe := Iff.rfl
@[simp ↓] theorem W_sub : W (mSub a b E) Qe ↔ W (mRO gSub (mA2 a b) E) Qe := Iff.rfl
@[simp ↓] theorem W_div : W (mDiv a b E) Qe ↔ W (mRO gDiv (mA2 a b) E) Qe := Iff.rfl
@[simp ↓] theorem W_mod : W (mMod a b E) Qe ↔ W (mRO gMod (mA2 a b) E) Qe := Iff.rfl
@[simp ↓] theorem W_pow : W (mPow a b E) Qe ↔ W (mRO gPow (mA2 a b) E) Qe := Iff.rfl
@[simp ↓] theorem W_shl : W (mShl a b E) Qe ↔ W (mRO gShl (mA2 a b) E) Qe := Iff.rfl
@[simp ↓] theorem W_shr : W (mShr a b E) Qe ↔ W (mRO gShr (mA2 a b) E) Qe := Iff.rfl
@[simp ↓] theorem W_and : W (mAnd a b E) Qe ↔ W (mRO (gI2 (fun _ _ => True) Builtin.bitAnd) (mA2 a b) E) Qe := Iff.rfl
@[simp ↓] theorem W_lt : W (mLt a b E) Qe ↔ W (mRO (gB2 fun i j => decide (i < j)) (mA2 a b) E) Qe := Iff.rfl
@[simp ↓] theorem W_le : W (mLe a b E) Qe ↔ W (mRO (gB2 fun i j => decide (i ≤ j)) (mA2 a b) E) Qe := Iff.rfl
@[simp ↓] theorem W_gt : W (mGt a b E) Qe ↔ W (mRO (gB2 fun i j => decide (j < i)) (mA2 a b) E) Qe := Iff.rfl
@[simp ↓] theorem W_ge : W (mGe a b E) Qe ↔ W (mRO (gB2 fun i j => decide (j ≤ i)) (mA2 a b) E) Qe := Iff.rfl
@[simp ↓] theorem W_neg : W (mNeg a E) Qe ↔ W (mRO gNeg (mA1 a) E) Qe := Iff.rfl
@[simp ↓] theorem W_eq : W (mEq a b E) Qe ↔ W (mRO gEq (mA2 a b) E) Qe := Iff.rfl
@[simp ↓] theorem W_ne : W (mNe a b E) Qe ↔ W (mRO gNe (mA2 a b) E) Qe := Iff.rfl
@[simp ↓] theorem W_isN : W (mIsN a E) Qe ↔ W (mRO gIsN (mA1 a) E) Qe := Iff.rfl
@[simp ↓] theorem W_notN : W (mNotN a E) Qe ↔ W (mRO gNotN (mA1 a) E) Qe := Iff.rfl
@[simp ↓] theorem W_ixd : W (mIxd a b E) Qe ↔ W (mOp gIxd (mA2 a b) E) Qe := Iff.rfl
@[simp ↓] theorem W_in : W (mIn a b E) Qe ↔ W (mOp (gInA false) (mA2 a b) E) Qe := Iff.rfl
@[simp ↓] theorem W_notIn : W (mNotIn a b E) Qe ↔ W (mOp (gInA true) (mA2 a b) E) Qe := Iff.rfl
@[simp ↓] theorem W_sl : W (mSl a b c E) Qe ↔ W (mOp gSl (mAc a (mAc b (mAc c mA0))) E) Qe := Iff.rfl
@[simp ↓] theorem W_srt : W (mSrt a E) Qe ↔ W (mOp gSrt1 (mAc a mA0) E) Qe := Iff.rfl
@[simp ↓] theorem W_lrg1 : W (mLrg1 a E) Qe ↔ W (mOp gLrg (mA1 a) E) Qe := Iff.rfl
@[simp ↓] theorem W_trg1 : W (mTrg1 a E) Qe ↔ W (mOp gTrg (mA1 a) E) Qe := Iff.rfl
@[simp ↓] theorem W_int : W (mInt a E) Qe ↔ W (a E) fun p => W (rd p.2 p.1) fun d => (match d with | .int k => Qe (.val (.int k) 9, p.2) | _ => False) := by
  unfold mInt
  simp only [W_bind]
  refine W_ext fun p => ?_; refine W_bind.trans <| W_ext fun d => ?_
  cases d <;> simp
@[simp ↓] theorem W_lst : W (mLst fa E) Qe ↔ W (fa E) fun p => W (tkL p.2 p.1) fun q => q.1.length ≤ sizeLine ∧ Qe (.val (.lst (q.1.map (·.1))) (uni q.1), q.2) := by unfold mLst; (repeat (first | exact Iff.rfl | (refine W_ext fun _ => ?_) | (refine W_bind.trans (W_ext fun _ => ?_)) | exact W_map | exact W_if1.trans Iff.rfl | (simp [W_ite, IfB]; done) | simp))
@[simp ↓] theorem W_tup : W (mTup fa E) Qe ↔ W (fa E) fun p => W (tkL p.2 p.1) fun q => q.1.length ≤ sizeLine ∧ Qe (.val (.tup (q.1.map (·.1))) 0, q.2) := by unfold mTup; (repeat (first | exact Iff.rfl | (refine W_ext fun _ => ?_) | (refine W_bind.trans (W_ext fun _ => ?_)) | exact W_map | exact W_if1.trans Iff.rfl | (simp [W_ite, IfB]; done) | simp))
@[simp ↓] theorem W_dicT : W (mDicT E) Qe ↔ Qe (.val (.dT []) 9, E) := by unfold mDicT; (repeat (first | exact Iff.rfl | (refine W_ext fun _ => ?_) | (refine W_bind.trans (W_ext fun _ => ?_)) | exact W_map | exact W_if1.trans Iff.rfl | (simp [W_ite, IfB]; done) | simp))
@[simp ↓] theorem W_if : W (mIf ft a b E) Qe ↔ W (ft E) fun p => IfB p.1 (W (a p.2) Qe) (W (b p.2) Qe) := by unfold mIf; simp only [W_bind]; (repeat (first | exact Iff.rfl | (refine W_ext fun _ => ?_) | (refine W_bind.trans (W_ext fun _ => ?_)) | exact W_map | exact W_if1.trans Iff.rfl | (simp [W_ite, IfB]; done) | simp)); try (repeat (first | exact Iff.rfl | (refine W_ext fun _ => ?_) | (refine W_bind.trans (W_ext fun _ => ?_)) | exact W_map | exact W_if1.trans Iff.rfl | (simp [W_ite, IfB]; done) | simp))
@[simp ↓] theorem W_andV : W (mAndV a b E) Qe ↔ W (a E) fun p => W (rd p.2 p.1) fun d => W (tru d) fun k => IfB k (W (b p.2) Qe) (Qe p) := by unfold mAndV; simp only [W_bind]; (repeat (first | exact Iff.rfl | (refine W_ext fun _ => ?_) | (refine W_bind.trans (W_ext fun _ => ?_)) | exact W_map | exact W_if1.trans Iff.rfl | (simp [W_ite, IfB]; done) | simp)); try (repeat (first | exact Iff.rfl | (refine W_ext fun _ => ?_) | (refine W_bind.trans (W_ext fun _ => ?_)) | exact W_map | exact W_if1.trans Iff.rfl | (simp [W_ite, IfB]; done) | simp))
@[simp ↓] theorem W_b : W (mB a E) Qt ↔ W (a E) fun p => W (rd p.2 p.1) fun d => (match d with | .bl k => Qt (k, p.2) | _ => False) := by
  unfold mB
  simp only [W_bind]
  refine W_ext fun p => ?_; refine W_bind.trans <| W_ext fun d => ?_
  cases d <;> simp
@[simp ↓] theorem W_tr : W (mTr a E) Qt ↔ W (a E) fun p => W (rd p.2 p.1) fun d => W (tru d) fun k => Qt (k, p.2) := by unfold mTr; (repeat (first | exact Iff.rfl | (refine W_ext fun _ => ?_) | (refine W_bind.trans (W_ext fun _ => ?_)) | exact W_map | exact W_if1.trans Iff.rfl | (simp [W_ite, IfB]; done) | simp))
@[simp ↓] theorem W_andT : W (mAndT ft fu E) Qt ↔ W (ft E) fun p => IfB p.1 (W (fu p.2) Qt) (Qt (false, p.2)) := by unfold mAndT; simp only [W_bind]; (repeat (first | exact Iff.rfl | (refine W_ext fun _ => ?_) | (refine W_bind.trans (W_ext fun _ => ?_)) | exact W_map | exact W_if1.trans Iff.rfl | (simp [W_ite, IfB]; done) | simp)); try (repeat (first | exact Iff.rfl | (refine W_ext fun _ => ?_) | (refine W_bind.trans (W_ext fun _ => ?_)) | exact W_map | exact W_if1.trans Iff.rfl | (simp [W_ite, IfB]; done) | simp))
@[simp ↓] theorem W_orT : W (mOrT ft fu E) Qt ↔ W (ft E) fun p => IfB p.1 (Qt (true, p.2)) (W (fu p.2) Qt) := by unfold mOrT; simp only [W_bind]; (repeat (first | exact Iff.rfl | (refine W_ext fun _ => ?_) | (refine W_bind.trans (W_ext fun _ => ?_)) | exact W_map | exact W_if1.trans Iff.rfl | (simp [W_ite, IfB]; done) | simp)); try (repeat (first | exact Iff.rfl | (refine W_ext fun _ => ?_) | (refine W_bind.trans (W_ext fun _ => ?_)) | exact W_map | exact W_if1.trans Iff.rfl | (simp [W_ite, IfB]; done) | simp))
@[simp ↓] theorem W_notT : W (mNotT ft E) Qt ↔ W (ft E) fun p => Qt (!p.1, p.2) := by unfold mNotT; (repeat (first | exact Iff.rfl | (refine W_ext fun _ => ?_) | (refine W_bind.trans (W_ext fun _ => ?_)) | exact W_map | exact W_if1.trans Iff.rfl | (simp [W_ite, IfB]; done) | simp))
@[simp ↓] theorem W_yes : W (mYes E) Qt ↔ Qt (true, E) := by unfold mYes; (repeat (first | exact Iff.rfl | (refine W_ext fun _ => ?_) | (refine W_bind.trans (W_ext fun _ => ?_)) | exact W_map | exact W_if1.trans Iff.rfl | (simp [W_ite, IfB]; done) | simp))
@[simp ↓] theorem W_seq : W (mSeq s t E) Qs ↔ W (s E) fun p => (match p.1 with | .nx => W (t p.2) Qs | fl => Qs (fl, p.2)) := by
  unfold mSeq
  simp only [W_bind]
  refine W_ext fun p => ?_
  obtain ⟨fl, E1⟩ := p
  cases fl <;> simp
@[simp ↓] theorem W_nx : W (mNx E) Qs ↔ Qs (.nx, E) := by unfold mNx; (repeat (first | exact Iff.rfl | (refine W_ext fun _ => ?_) | (refine W_bind.trans (W_ext fun _ => ?_)) | exact W_map | exact W_if1.trans Iff.rfl | (simp [W_ite, IfB]; done) | simp))
@[simp ↓] theorem W_bk : W (mBk E) Qs ↔ Qs (.bk, E) := by unfold mBk; (repeat (first | exact Iff.rfl | (refine W_ext fun _ => ?_) | (refine W_bind.trans (W_ext fun _ => ?_)) | exact W_map | exact W_if1.trans Iff.rfl | (simp [W_ite, IfB]; done) | simp))
@[simp ↓] theorem W_ct : W (mCt E) Qs ↔ Qs (.ct, E) := by unfold mCt; (repeat (first | exact Iff.rfl | (refine W_ext fun _ => ?_) | (refine W_bind.trans (W_ext fun _ => ?_)) | exact W_map | exact W_if1.trans Iff.rfl | (simp [W_ite, IfB]; done) | simp))
@[simp ↓] theorem W_set : W (mSet i a E) Qs ↔ W (a E) fun p => W (tk p.2 p.1) fun q => i < q.2.2.length ∧ Qs (.nx, q.2.2.set i (some (q.1, q.2.1))) := by unfold mSet; (repeat (first | exact Iff.rfl | (refine W_ext fun _ => ?_) | (refine W_bind.trans (W_ext fun _ => ?_)) | exact W_map | exact W_if1.trans Iff.rfl | (simp [W_ite, IfB]; done) | simp))
@[simp ↓] theorem W_ret : W (mRet a E) Qs ↔ W (a E) fun p => W (mv p.2 p.1) fun q => Qs (.rt q.1 q.2.1, q.2.2) := by unfold mRet; (repeat (first | exact Iff.rfl | (refine W_ext fun _ => ?_) | (refine W_bind.trans (W_ext fun _ => ?_)) | exact W_map | exact W_if1.trans Iff.rfl | (simp [W_ite, IfB]; done) | simp))
@[simp ↓] theorem W_ex : W (mEx a E) Qs ↔ W (a E) fun p => Qs (.nx, p.2) := by unfold mEx; (repeat (first | exact Iff.rfl | (refine W_ext fun _ => ?_) | (refine W_bind.trans (W_ext fun _ => ?_)) | exact W_map | exact W_if1.trans Iff.rfl | (simp [W_ite, IfB]; done) | simp))
@[simp ↓] theorem W_ifS : W (mIfS ft s t E) Qs ↔ W (ft E) fun p => IfB p.1 (W (s p.2) Qs) (W (t p.2) Qs) := by unfold mIfS; simp only [W_bind]; (repeat (first | exact Iff.rfl | (refine W_ext fun _ => ?_) | (refine W_bind.trans (W_ext fun _ => ?_)) | exact W_map | exact W_if1.trans Iff.rfl | (simp [W_ite, IfB]; done) | simp)); try (repeat (first | exact Iff.rfl | (refine W_ext fun _ => ?_) | (refine W_bind.trans (W_ext fun _ => ?_)) | exact W_map | exact W_if1.trans Iff.rfl | (simp [W_ite, IfB]; done) | simp))
@[simp ↓] theorem W_asg : W (mAsg g a E) Qs ↔ W (a E) fun p => W (tk p.2 p.1) fun q => W (g q.1 q.2.2) fun E' => Qs (.nx, E') := by unfold mAsg; (repeat (first | exact Iff.rfl | (refine W_ext fun _ => ?_) | (refine W_bind.trans (W_ext fun _ => ?_)) | exact W_map | exact W_if1.trans Iff.rfl | (simp [W_ite, IfB]; done) | simp))
@[simp ↓] theorem W_tgTl {ds : List D} : W (tgT n gs (.lst ds) E) Qg ↔ ds.length = n ∧ W (gs ds E) Qg := by simp [tgT]; try (repeat (first | exact Iff.rfl | (refine W_ext fun _ => ?_) | (refine W_bind.trans (W_ext fun _ => ?_)) | exact W_map | exact W_if1.trans Iff.rfl | (simp [W_ite, IfB]; done) | simp))
@[simp ↓] theorem W_tgV : W (tgV i d E) Qg ↔ i < E.length ∧ Qg (E.set i (some (d, 0))) := by unfold tgV; (repeat (first | exact Iff.rfl | (refine W_ext fun _ => ?_) | (refine W_bind.trans (W_ext fun _ => ?_)) | exact W_map | exact W_if1.trans Iff.rfl | (simp [W_ite, IfB]; done) | simp))
@[simp ↓] theorem W_tgN : W (tgN [] E) Qg ↔ Qg E := by simp [tgN]; try (repeat (first | exact Iff.rfl | (refine W_ext fun _ => ?_) | (refine W_bind.trans (W_ext fun _ => ?_)) | exact W_map | exact W_if1.trans Iff.rfl | (simp [W_ite, IfB]; done) | simp))
@[simp ↓] theorem W_tgC {ds : List D} : W (tgC g gs (d :: ds) E) Qg ↔ W (g d E) fun E1 => W (gs ds E1) Qg := by simp [tgC]; try (repeat (first | exact Iff.rfl | (refine W_ext fun _ => ?_) | (refine W_bind.trans (W_ext fun _ => ?_)) | exact W_map | exact W_if1.trans Iff.rfl | (simp [W_ite, IfB]; done) | simp))
@[simp ↓] theorem W_tgT {ds : List D} : W (tgT n gs (.tup ds) E) Qg ↔ ds.length = n ∧ W (gs ds E) Qg := by simp [tgT]; try (repeat (first | exact Iff.rfl | (refine W_ext fun _ => ?_) | (refine W_bind.trans (W_ext fun _ => ?_)) | exact W_map | exact W_if1.trans Iff.rfl | (simp [W_ite, IfB]; done) | simp))
@[simp ↓] theorem W_for : W (mFor it g s E) Qs ↔ W (it E) fun p => W (forM g s p.1 p.2) Qs := by unfold mFor; (repeat (first | exact Iff.rfl | (refine W_ext fun _ => ?_) | (refine W_bind.trans (W_ext fun _ => ?_)) | exact W_map | exact W_if1.trans Iff.rfl | (simp [W_ite, IfB]; done) | simp))
@[simp ↓] theorem W_forM_nil : W (forM g s [] E) Qs ↔ Qs (.nx, E) := by simp [forM]; try (repeat (first | exact Iff.rfl | (refine W_ext fun _ => ?_) | (refine W_bind.trans (W_ext fun _ => ?_)) | exact W_map | exact W_if1.trans Iff.rfl | (simp [W_ite, IfB]; done) | simp))
theorem W_forM_cons {ds : List D} : W (forM g s (d :: ds) E) Qs ↔ W (g d E) fun E1 => W (s E1) fun q => (match q.1 with | .nx => W (forM g s ds q.2) Qs | .ct => W (forM g s ds q.2) Qs | .bk => Qs (.nx, q.2) | .rt d k => Qs (.rt d k, q.2)) := by
  simp only [forM, W_bind]
  refine W_ext fun E1 => ?_; refine W_bind.trans <| W_ext fun q => ?_
  obtain ⟨fl, E2⟩ := q
  cases fl <;> simp
@[simp ↓] theorem W_sq : W (mSq a E) Qi ↔ W (a E) fun p => W (tk p.2 p.1) fun q => W (seqD q.1) fun ds => Qi (ds, q.2.2) := by unfold mSq; (repeat (first | exact Iff.rfl | (refine W_ext fun _ => ?_) | (refine W_bind.trans (W_ext fun _ => ?_)) | exact W_map | exact W_if1.trans Iff.rfl | (simp [W_ite, IfB]; done) | simp))
@[simp ↓] theorem W_rg1 : W (mRg1 a E) Qi ↔ W (a E) fun p => W (rd p.2 p.1) fun d => (match d with | .int j => rgOk j ∧ Qi (rng 0 j.toNat, p.2) | _ => False) := by
  unfold mRg1
  simp only [W_bind]
  refine W_ext fun p => ?_; refine W_bind.trans <| W_ext fun d => ?_
  cases d <;> simp
@[simp ↓] theorem W_rg2 : W (mRg2 a b E) Qi ↔ W (a E) fun p => W (b p.2) fun p2 => W (rd p2.2 p.1) fun d => W (rd p2.2 p2.1) fun d2 => (match d, d2 with | .int i, .int j => (rgOk i ∧ rgOk j) ∧ Qi (rng i (j - i).toNat, p2.2) | _, _ => False) := by
  unfold mRg2
  simp only [W_bind]
  refine W_ext fun p => ?_; refine W_bind.trans <| W_ext fun p2 => ?_; refine W_bind.trans <| W_ext fun d => ?_; refine W_bind.trans <| W_ext fun d2 => ?_
  cases d <;> cases d2 <;> simp
@[simp ↓] theorem W_lstAt {Q : List D × Nat → Prop} : W (lstAt E i) Q ↔ W (eg E i) fun p => (match p with | (.lst ds, n + 1) => Q (ds, n + 1) | _ => False) := by
  unfold lstAt
  cases h : eg E i with
  | none => simp
  | some p =>
    obtain ⟨d, n⟩ := p
    cases d <;> cases n <;> simp
@[simp ↓] theorem W_app : W (mApp i a E) Qe ↔ W (lstAt E i) fun _ => W (a E) fun p => W (tk p.2 p.1) fun q => W (lstAt q.2.2 i) fun l => l.1.length < sizeLine ∧ Qe (.val .non 9, q.2.2.set i (some (.lst (l.1 ++ [q.1]), upl l.2 (.lst l.1) q.1 q.2.1))) := by unfold mApp; (repeat (first | exact Iff.rfl | (refine W_ext fun _ => ?_) | (refine W_bind.trans (W_ext fun _ => ?_)) | exact W_map | exact W_if1.trans Iff.rfl | (simp [W_ite, IfB]; done) | simp))
@[simp ↓] theorem W_pop : W (mPop i E) Qe ↔ W (lstAt E i) fun l => W (l.1[l.1.length - 1]?) fun d => Qe (.val d (l.2 - 1), E.set i (some (.lst l.1.dropLast, l.2))) := by unfold mPop; (repeat (first | exact Iff.rfl | (refine W_ext fun _ => ?_) | (refine W_bind.trans (W_ext fun _ => ?_)) | exact W_map | exact W_if1.trans Iff.rfl | (simp [W_ite, IfB]; done) | simp))
@[simp ↓] theorem W_rev : W (mRev i E) Qe ↔ W (lstAt E i) fun l => Qe (.val .non 9, E.set i (some (.lst l.1.reverse, l.2))) := by unfold mRev; (repeat (first | exact Iff.rfl | (refine W_ext fun _ => ?_) | (refine W_bind.trans (W_ext fun _ => ?_)) | exact W_map | exact W_if1.trans Iff.rfl | (simp [W_ite, IfB]; done) | simp))
@[simp ↓] theorem W_put : W (mPut i a b E) Qs ↔ W (b E) fun pv => (eg pv.2 i).isSome = true ∧ W (a pv.2) fun pk => W (rd pk.2 pk.1) fun k => W (tk pk.2 pv.1) fun q => W (putAt q.2.2 i k q.1 q.2.1) fun E' => Qs (.nx, E') := by
  unfold mPut
  refine W_bind.trans (W_ext fun pv => W_if1.trans (and_congr_right fun _ => ?_))
  exact W_bind.trans (W_ext fun pk => W_bind.trans (W_ext fun k => W_bind.trans (W_ext fun q => W_map)))
@[simp ↓] theorem W_call0 : W (mCall none M fa E) Qe ↔ W (fa E) fun p => W (rdL p.2 p.1) fun ds => W (M ds) fun r => IfB (imm r.1) (Qe (.val r.1 9, p.2)) (Qe (.val r.1 r.2.1, dem p.2 p.1)) := by
  unfold mCall
  simp only [W_bind, W_iteB, W_some]
  try (repeat (first | exact Iff.rfl | (refine W_ext fun _ => ?_) | (refine W_bind.trans (W_ext fun _ => ?_)) | exact W_map | exact W_if1.trans Iff.rfl | (simp [W_ite, IfB]; done) | simp))
@[simp ↓] theorem W_call1 : W (mCall (some m) M fa E) Qe ↔ W (fa E) fun p => W (rdL p.2 p.1) fun ds => W (M ds) fun r => W (p.1[m]?) fun o => (match o with
    | .slot j => W (flAt p.2 j) fun n => (p.1.eraseIdx m).all (fun o => !isSlot j o) = true ∧ IfB (imm r.1) (Qe (.val r.1 9, p.2.set j (some (r.2.2, n)))) (Qe (.val r.1 r.2.1, (dem p.2 (p.1.eraseIdx m)).set j (some (r.2.2, n))))
    | _ => False) := by
  unfold mCall
  simp only [W_bind]
  refine W_ext fun p => ?_; refine W_bind.trans <| W_ext fun ds => ?_; refine W_bind.trans <| W_ext fun r => ?_
  cases h : p.1[m]? with
  | none => simp
  | some o =>
    cases o with
    | slot j =>
      rw [W_some]
      refine W_bind.trans (W_ext fun n => W_if1.trans (and_congr_right fun _ => ?_))
      cases imm r.1 <;> simp
    | val d n => simp
@[simp ↓] theorem W_flAt {Q : Nat → Prop} : W (flAt E i) Q ↔ W (eg E i) fun p => (match p with | (d, n + 1) => flat d = true ∧ Q (n + 1) | _ => False) := by
  unfold flAt
  cases h : eg E i with
  | none => simp
  | some p =>
    obtain ⟨d, n⟩ := p
    cases n <;> simp
@[simp] theorem dem_nil : dem E [] = E := rfl
@[simp] theorem dem_val : dem E (.val d n :: os) = dem E os := rfl
@[simp] theorem dem_slot : dem E (.slot i :: os) = dem (dem1 E (.slot i)) os := rfl
@[simp] theorem isSlot_v : isSlot i (.val d n) = false := rfl
@[simp] theorem isSlot_s {j : Nat} : isSlot j (.slot i) = (i == j) := rfl
@[simp ↓] theorem W_mDef {io : Option Nat} {ds : List D} {Q : D × Nat × D → Prop} : W (mDef io n s ds) Q ↔ W (s (ent0 io n ds)) fun p => (match p.1 with
    | .nx => W (outAt io p.2) fun o => Q (.non, 9, o)
    | .rt d k => W (outAt io p.2) fun o => Q (d, k, o)
    | _ => False) := by
  unfold mDef
  simp only [W_bind]
  refine W_ext fun p => ?_
  obtain ⟨fl, E2⟩ := p
  cases fl <;> simp
@[simp ↓] theorem W_out0 {Q : D → Prop} : W (outAt none E) Q ↔ Q .non := by simp [outAt]; try (repeat (first | exact Iff.rfl | (refine W_ext fun _ => ?_) | (refine W_bind.trans (W_ext fun _ => ?_)) | exact W_map | exact W_if1.trans Iff.rfl | (simp [W_ite, IfB]; done) | simp))
@[simp ↓] theorem W_out1 {Q : D → Prop} : W (outAt (some i) E) Q ↔ W (eg E i) fun p => (match p with | (d, n + 1) => flat d = true ∧ Q d | _ => False) := by
  unfold outAt
  simp only
  cases h : eg E i with
  | none => simp
  | some p =>
    obtain ⟨d, n⟩ := p
    cases n <;> simp
@[simp] theorem ent0_0 : ent0 none n [] = List.replicate n none := by simp [ent0, ent]
@[simp] theorem ent_0 {io : Option Nat} : ent io i [] = [] := rfl
@[simp] theorem ent_c {io : Option Nat} {ds : List D} : ent io i (d :: ds) = some (d, if io = some i then 1 else 0) :: ent io (i + 1) ds := rfl
theorem ent0_def {io : Option Nat} {ds : List D} : ent0 io n ds = ent io 0 ds ++ List.replicate (n - ds.length) none := rfl
@[simp] theorem rep_s {α : Type} {x : α} : List.replicate (n + 1) x = x :: List.replicate n x := rfl
end
end Zk
namespace Zk
open PySem PySem.Spec PyProof.Rows L2
@[simp] theorem gAdd_int (i j : Int) : gAdd [.int i, .int j] = some (.int (i + j), 9) := by simp [gAdd]
@[simp] theorem gMul_int (i j : Int) : gMul [.int i, .int j] = if i.natAbs < big ∧ j.natAbs < big then some (.int (i * j), 9) else none := by simp [gMul]
@[simp] theorem gI2_int {c : Int → Int → Prop} [∀ i j, Decidable (c i j)] {f : Int → Int → Int} (i j : Int) : gI2 c f [.int i, .int j] = if c i j then some (.int (f i j)) else none := by simp [gI2]
@[simp] theorem gB2_int {f : Int → Int → Bool} (i j : Int) : gB2 f [.int i, .int j] = some (.bl (f i j)) := by simp [gB2]
@[simp] theorem gNeg_int (i : Int) : gNeg [.int i] = some (.int (-i)) := by simp [gNeg]
@[simp] theorem gEq_int (i j : Int) : gEq [.int i, .int j] = some (.bl (decide (i = j))) := by simp [gEq, dat]
@[simp] theorem gNe_int (i j : Int) : gNe [.int i, .int j] = some (.bl (!decide (i = j))) := by simp [gNe, dat]
@[simp] theorem gLen_lst (ds : List D) : gLen [.lst ds] = some (.int ds.length, 9) := by simp [gLen]
@[simp] theorem gLen_tup (ds : List D) : gLen [.tup ds] = some (.int ds.length, 9) := by simp [gLen]
@[simp] theorem gLen_scr (ds : List Int) : gLen [.scr ds] = some (.int ds.length, 9) := by simp [gLen]
@[simp] theorem gInt_int (i : Int) : gInt [.int i] = some (.int i, 9) := by simp [gInt]
@[simp] theorem gTuple_lst (ds : List D) : gTuple [.lst ds] = some (.tup ds, 0) := by simp [gTuple]
@[simp] theorem gTuple_tup (ds : List D) : gTuple [.tup ds] = some (.tup ds, 0) := by simp [gTuple]
@[simp] theorem gList_lst (ds : List D) : gList [.lst ds] = some (.lst ds, lev ds) := by simp [gList]
@[simp] theorem gList_tup (ds : List D) : gList [.tup ds] = some (.lst ds, lev ds) := by simp [gList]
@[simp] theorem tru_bl (b : Bool) : tru (.bl b) = some b := by simp [tru]
@[simp] theorem tru_int (i : Int) : tru (.int i) = some (i != 0) := by simp [tru]
@[simp] theorem flat_lst (xs : List D) : flat (.lst xs) = imms xs := rfl
@[simp] theorem imms_ints (xs : List Int) : imms (xs.map D.int) = true := imms_map _ (fun _ => by simp) xs
@[simp] theorem imms_app (a b : List D) : imms (a ++ b) = (imms a && imms b) := imms_append a b
section
variable {g : Fg} {body s : Fs} {c : Ft} {f : Fe} {it : Fi} {is : List Nat} {E E0 : Ev} {its : List D} {Qs : Fl × Ev → Prop} {Qe : Op × Ev → Prop}
/-- a loop by an invariant -/
theorem W_forI (I : Nat → Ev → Prop) (h0 : I 0 E) (st : ∀ k d E, its[k]? = some d → I k E → W (g d E) fun E1 => W (body E1) fun q => (match q.1 with
    | .nx => I (k + 1) q.2 | .ct => I (k + 1) q.2 | .bk => Qs (.nx, q.2) | .rt d n => Qs (.rt d n, q.2))) (fin : ∀ E, I its.length E → Qs (.nx, E)) : W (forM g body its E) Qs := by
  have go : ∀ (r : List D) (k : Nat) (E : Ev), its.drop k = r → k ≤ its.length → I k E → W (forM g body r E) Qs := by
    intro r
    induction r with
    | nil =>
      intro k E e hk i
      rw [W_forM_nil]
      have : k = its.length := by
        have := List.drop_eq_nil_iff.mp e
        omega
      exact fin E (this ▸ i)
    | cons d r ih =>
      intro k E e hk i
      have hd : its[k]? = some d := by
        have := congrArg List.head? e
        rw [List.head?_drop] at this
        simpa using this
      have hr : its.drop (k + 1) = r := by
        have := congrArg List.tail e
        rw [List.tail_drop] at this
        simpa using this
      have hk2 : k + 1 ≤ its.length := by
        have := (List.getElem?_eq_some_iff.mp hd).1
        omega
      rw [W_forM_cons]
      refine (st k d E hd i).mono fun E1 h1 => h1.mono fun q h2 => ?_
      obtain ⟨fl, E2⟩ := q
      cases fl with
      | nx => exact ih (k + 1) E2 hr hk2 h2
      | ct => exact ih (k + 1) E2 hr hk2 h2
      | bk => exact h2
      | rt d n => exact h2
  exact go its 0 E rfl (Nat.zero_le _) h0
/-- .. over what stands for xs -/
theorem W_forX {α : Type} {xs : List α} {ι : α → D} (I : List α → Ev → Prop) (h0 : I [] E) (st : ∀ a x b E, xs = a ++ x :: b → I a E → W (g (ι x) E) fun E1 => W (body E1) fun q => (match q.1 with
    | .nx => I (a ++ [x]) q.2 | .ct => I (a ++ [x]) q.2 | .bk => Qs (.nx, q.2) | .rt d n => Qs (.rt d n, q.2))) (fin : ∀ E, I xs E → Qs (.nx, E)) : W (forM g body (xs.map ι) E) Qs := by
  refine W_forI (fun k E => I (xs.take k) E) (by simpa using h0) (fun k d E hd i => ?_) fun E i => fin E (by simpa using i)
  rw [List.getElem?_map] at hd
  cases hx : xs[k]? with
  | none => rw [hx] at hd; cases hd
  | some x =>
    rw [hx] at hd
    cases hd
    have hk := (List.getElem?_eq_some_iff.mp hx).1
    have ex := (List.getElem?_eq_some_iff.mp hx).2
    have e : xs = xs.take k ++ x :: xs.drop (k + 1) := by
      conv => lhs; rw [← List.take_append_drop k xs]
      rw [List.drop_eq_getElem_cons hk, ex]
    have e2 : xs.take (k + 1) = xs.take k ++ [x] := by rw [List.take_add_one, hx]; rfl
    rw [e2]
    exact st _ x _ E e i
@[simp] theorem rng_get (lo : Int) (n k : Nat) : (rng lo n)[k]? = if k < n then some (.int (lo + k)) else none := by
  unfold rng
  rw [List.getElem?_map]
  by_cases h : k < n
  · rw [List.getElem?_range h]; simp [h]
  · rw [List.getElem?_eq_none (by simpa using h)]; simp [h]
/-- .. over a range -/
theorem W_forR {lo : Int} {n : Nat} (I : Nat → Ev → Prop) (h0 : I 0 E) (st : ∀ k E, k < n → I k E → W (g (.int (lo + k)) E) fun E1 => W (body E1) fun q => (match q.1 with
    | .nx => I (k + 1) q.2 | .ct => I (k + 1) q.2 | .bk => Qs (.nx, q.2) | .rt d n => Qs (.rt d n, q.2))) (fin : ∀ E, I n E → Qs (.nx, E)) : W (forM g body (rng lo n) E) Qs :=
  W_forI I h0 (fun k d E hd i => by
    rw [rng_get] at hd
    split at hd
    · rename_i h
      cases hd
      exact st k E h i
    · cases hd) fun E i => fin E (by simpa using i)
/-- a comprehension by an invariant -/
theorem W_lcI {E : Ev} {Q : List (D × Nat) × Ev → Prop} (I : Nat → Ev → List (D × Nat) → Prop) (hl : its.length < sizeLine) (h0 : I 0 E []) (st : ∀ k d E acc, its[k]? = some d → acc.length ≤ k → I k E acc → W (g d E) fun E1 => W (c E1) fun q =>
      IfB q.1 (W (f q.2) fun r => W (tk r.2 r.1) fun t => I (k + 1) (wipeE t.2.2 is) (acc ++ [(t.1, t.2.1)])) (I (k + 1) (wipeE q.2 is) acc)) (fin : ∀ E acc, acc.length ≤ its.length → I its.length E acc → Q (acc, E)) : W (lcM g c f is its E []) Q := by
  have go : ∀ (r : List D) (k : Nat) (E : Ev) (acc : List (D × Nat)), its.drop k = r → k ≤ its.length → acc.length ≤ k → I k E acc → W (lcM g c f is r E acc) Q := by
    intro r
    induction r with
    | nil =>
      intro k E acc e hk ha i
      have : k = its.length := by
        have := List.drop_eq_nil_iff.mp e
        omega
      simp only [lcM, W_some]
      exact fin E acc (by omega) (this ▸ i)
    | cons d r ih =>
      intro k E acc e hk ha i
      have hd : its[k]? = some d := by
        have := congrArg List.head? e
        rw [List.head?_drop] at this
        simpa using this
      have hr : its.drop (k + 1) = r := by
        have := congrArg List.tail e
        rw [List.tail_drop] at this
        simpa using this
      have hk2 : k + 1 ≤ its.length := by
        have := (List.getElem?_eq_some_iff.mp hd).1
        omega
      unfold lcM
      refine W_bind.mpr ((st k d E acc hd ha i).mono fun E1 h1 => W_bind.mpr (h1.mono fun q h2 => W_iteB.mpr ?_))
      obtain ⟨b, E2⟩ := q
      cases b with
      | false =>
        rw [IfB_f] at h2 ⊢
        exact ih (k + 1) _ acc hr hk2 (by omega) h2
      | true =>
        rw [IfB_t] at h2 ⊢
        refine W_bind.mpr (h2.mono fun r1 h3 => W_bind.mpr (h3.mono fun t h4 => W_if1.mpr ?_))
        exact ⟨by omega, ih (k + 1) _ _ hr hk2 (by simp; omega) h4⟩
  exact go its 0 E [] rfl (Nat.zero_le _) (by simp) h0
@[simp ↓] theorem W_lc0 : W (mLc it is g c f E) Qe ↔ W (it E) fun p => W (lcM g c f is p.1 (wipeE p.2 is) []) fun q => Qe (.val (.lst (q.1.map (·.1))) (uni q.1), backE p.2 q.2 is) := by unfold mLc; exact W_bind.trans (W_ext fun p => W_map)
/-- a comprehension that changes nothing, of unchangeable things -/
theorem W_lcX {α : Type} {xs : List α} {ι : α → D} {E0 : Ev} {Q : List (D × Nat) × Ev → Prop} (p : α → Bool) (ρ : α → D) (hρ : ∀ x, imm (ρ x) = true) (hl : xs.length < sizeLine)
    (st : ∀ x ∈ xs, W (g (ι x) E0) fun E1 => W (c E1) fun q => IfB q.1 (p x = true ∧ W (f q.2) fun r => W (tk r.2 r.1) fun t => t.1 = ρ x ∧ wipeE t.2.2 is = E0) (p x = false ∧ wipeE q.2 is = E0))
    (fin : ∀ acc : List (D × Nat), acc.map (·.1) = (xs.filter p).map ρ → uni acc = 9 → Q (acc, E0)) : W (lcM g c f is (xs.map ι) E0 []) Q := by
  refine W_lcI (I := fun k E acc => E = E0 ∧ acc.map (·.1) = ((xs.take k).filter p).map ρ) (by simpa using hl) (by simp) (fun k d E acc hd ha i => ?_) fun E acc ha i => ?_
  · obtain ⟨rfl, i⟩ := i
    rw [List.getElem?_map] at hd
    cases hx : xs[k]? with
    | none => rw [hx] at hd; cases hd
    | some x =>
      rw [hx] at hd
      cases hd
      refine (st x (List.mem_of_getElem? hx)).mono fun E1 h1 => h1.mono fun q h2 => ?_
      obtain ⟨b, E2⟩ := q
      cases b with
      | false =>
        rw [IfB_f] at h2 ⊢
        refine ⟨h2.2, ?_⟩
        rw [List.take_add_one, hx, List.filter_append, i]
        simp [h2.1]
      | true =>
        rw [IfB_t] at h2 ⊢
        refine h2.2.mono fun r1 h3 => h3.mono fun t h4 => ⟨h4.2, ?_⟩
        rw [List.take_add_one, hx, List.filter_append, List.map_append, i]
        simp [h2.1, h4.1]
  · obtain ⟨rfl, i⟩ := i
    simp only [List.length_map, List.take_length] at i
    refine fin acc i ?_
    unfold uni
    rw [if_pos]
    rw [i]
    exact imms_map _ hρ _
@[simp] theorem wipeE_nil : wipeE E [] = E := rfl
@[simp] theorem wipeE_c {i : Nat} : wipeE E (i :: is) = wipeE (E.set i none) is := rfl
@[simp] theorem backE_nil : backE E E0 [] = E0 := rfl
@[simp] theorem backE_c {i : Nat} : backE E E0 (i :: is) = backE E (E0.set i (eg E i)) is := rfl
end
theorem big0 {i : Int} (h : i.natAbs < 2 ^ 64) : i.natAbs < big := big_of h (by decide)
theorem sizeL : sizeLine = 16777216 := sizeLine_eq
theorem ixN_ok {n : Nat} {i : Int} (h0 : 0 ≤ i) (h : i < n) : ixN n i = some i.toNat := by unfold ixN; rw [if_pos h0, if_pos h]
@[simp] theorem seqD_lst (ds : List D) : seqD (.lst ds) = some ds := rfl
@[simp] theorem seqD_tup (ds : List D) : seqD (.tup ds) = some ds := rfl
@[simp] theorem seqD_con (ds : List D) : seqD (.con ds) = some ds := rfl
@[simp] theorem seqD_scr (ns : List Int) : seqD (.scr ns) = some (ns.map D.int) := rfl
@[simp] theorem part_non : part .non = some none := rfl
@[simp] theorem part_int (i : Int) : part (.int i) = some (some i) := rfl
@[simp] theorem gSl_lst (ds : List D) (l h : D) : gSl [.lst ds, l, h] = (part l).bind fun l => (part h).map fun h => (.lst (cutD ds l h), lev (cutD ds l h)) := by simp [gSl]
@[simp] theorem gSl_scr (ds : List Int) (l h : D) : gSl [.scr ds, l, h] = (part l).bind fun l => (part h).map fun h => (.lst (cutD (ds.map D.int) l h), lev (cutD (ds.map D.int) l h)) := by simp [gSl]
@[simp] theorem gSl_tup (ds : List D) (l h : D) : gSl [.tup ds, l, h] = (part l).bind fun l => (part h).map fun h => (.tup (cutD ds l h), 0) := by simp [gSl]
theorem cut_to (xs : List D) (k : Nat) : cutD xs none (some k) = xs.take k := by
  unfold cutD
  rw [HT.sIx_none, show HT.sIx xs.length xs.length (some (k : Int)) = min k xs.length from HT.sIx_nat xs.length xs.length k]
  simp
theorem cut_from (xs : List D) (k : Nat) : cutD xs (some k) none = xs.drop k := by
  unfold cutD
  rw [HT.sIx_none, show HT.sIx xs.length 0 (some (k : Int)) = min k xs.length from HT.sIx_nat xs.length 0 k]
  by_cases h : k ≤ xs.length
  · rw [Nat.min_eq_left h, List.take_of_length_le (by simp)]
  · rw [Nat.min_eq_right (by omega), List.drop_of_length_le (Nat.le_refl _), List.drop_of_length_le (by omega)]; simp

theorem W_seqJ {s t : Fs} {E : Ev} {Q : Fl × Ev → Prop} (J : Ev → Prop) (h : W (s E) fun p => p.1 = .nx ∧ J p.2) (k : ∀ E1, J E1 → W (t E1) Q) : W (mSeq s t E) Q := by
  rw [W_seq]
  refine h.mono fun p hp => ?_
  obtain ⟨fl, E1⟩ := p
  obtain ⟨rfl, j⟩ := hp
  exact k E1 j
def B72 : Int := 2 ^ 7200
theorem B72_pos : 0 < B72 := by unfold B72; exact Int.pow_pos (by decide)
theorem B72_big {i : Int} (h0 : 0 ≤ i) (h : i < B72 * 100000000000) : i.natAbs < big := by
  refine big_of (k := 7300) ?_ (by decide)
  have e : (B72 * 100000000000 : Int) ≤ 2 ^ 7300 := by
    unfold B72
    have : (2 : Int) ^ 7300 = 2 ^ 7200 * 2 ^ 100 := by rw [← Int.pow_add]
    rw [this]
    exact Int.mul_le_mul_of_nonneg_left (by decide) (Int.le_of_lt (Int.pow_pos (by decide)))
  have e3 : i < ((2 ^ 7300 : Nat) : Int) := by
    rw [Int.natCast_pow]
    exact Int.lt_of_lt_of_le h e
  generalize 2 ^ 7300 = c at e3 ⊢
  omega
@[simp] theorem one_big : 1 < big := by
  have := big0 (i := 1) (by decide)
  simpa using this
@[simp] theorem lev_ints' (ns : List Int) : lev (ns.map D.int) = 9 := lev_ints ns
@[simp] theorem uni_nil : uni [] = 9 := by simp [uni]
@[simp] theorem gIxd_lst (ds : List D) (i : D) : gIxd [.lst ds, i] = gIx [.lst ds, i] := by simp [gIxd]
@[simp] theorem gIxd_tup (ds : List D) (i : D) : gIxd [.tup ds, i] = gIx [.tup ds, i] := by simp [gIxd]
@[simp] theorem gIx_lst (ds : List D) (i : Int) : gIx [.lst ds, .int i] = (atI ds i).map fun d => (d, 0) := by simp [gIx]
@[simp] theorem gIx_tup (ds : List D) (i : Int) : gIx [.tup ds, .int i] = (atI ds i).map fun d => (d, 0) := by simp [gIx]
@[simp] theorem atI_map' {α β : Type} (f : α → β) (xs : List α) (i : Int) : atI (xs.map f) i = (atI xs i).map f := atI_map f xs i
theorem atI_ok {α : Type} {xs : List α} {i : Int} (h0 : 0 ≤ i) (h : i < xs.length) : ∃ x, atI xs i = some x ∧ x ∈ xs ∧ xs[i.toNat]? = some x ∧ ixN xs.length i = some i.toNat := by
  have e := ixN_ok h0 h
  have hl : i.toNat < xs.length := by omega
  refine ⟨xs[i.toNat], ?_, List.getElem_mem _, List.getElem?_eq_getElem hl, e⟩
  unfold atI
  rw [e, Option.bind_some, List.getElem?_eq_getElem hl]
theorem divOk_of {i j : Int} (h : 0 < j) (h2 : j < 2 ^ 64) : divOk i j := ⟨h, Int.lt_of_lt_of_le h2 (by
  have : (2 : Int) ^ 8000 = 2 ^ 64 * 2 ^ 7936 := by rw [← Int.pow_add]
  rw [this]
  have h1 : (1 : Int) ≤ 2 ^ 7936 := Int.pow_pos (by decide)
  have := Int.mul_le_mul_of_nonneg_left h1 (by decide : (0 : Int) ≤ 2 ^ 64)
  rwa [Int.mul_one] at this)⟩
@[simp] theorem divOk_2 {i : Int} : divOk i 2 := divOk_of (by decide) (by decide)
@[simp] theorem divOk_1000 {i : Int} : divOk i 1000 := divOk_of (by decide) (by decide)
@[simp] theorem szl {n : Nat} (h : n ≤ 16777216) : n ≤ sizeLine := by rw [sizeL]; exact h
@[simp] theorem szt {n : Nat} (h : n < 16777216) : n < sizeLine := by rw [sizeL]; exact h
@[simp] theorem nb {n : Nat} (h : n < 2 ^ 64) : n < big := big_of h (by decide)
@[simp] theorem upl_int {n m : Nat} {d : D} {i : Int} : upl n d (.int i) m = n := by simp [upl]
@[simp] theorem upl_bl {n m : Nat} {d : D} {i : Bool} : upl n d (.bl i) m = n := by simp [upl]
theorem upl_imm {n m : Nat} {d e : D} (h : imm e = true) : upl n d e m = n := by simp [upl, h]
@[simp] theorem updl_int {κ : Type} {n : Nat} {kds : List (κ × D)} {i : Int} : updl n kds (.int i) = if imms (kds.map (·.2)) = true then n else 1 := by simp [updl]
def putOf (p : D × Nat) (k dv : D) (nv : Nat) : Option (D × Nat) := match p with
  | (.lst ds, n + 1) => match k with
    | .int i => (ixN ds.length i).map fun j => (.lst (ds.set j dv), upl (n + 1) (.lst ds) dv nv)
    | _ => none
  | (.dK kds, n + 1) => (keyOf k).bind fun k => if kds.length < sizeLine then some (.dK (putD kds k dv), updl (n + 1) kds dv) else none
  | (.dT kds, n + 1) => match k with
    | .tup ks => (keysOf ks).bind fun k => if kds.length < sizeLine then some (.dT (putD kds k dv), updl (n + 1) kds dv) else none
    | _ => none
  | _ => none
theorem putAt_of {E : Ev} {x : Nat} {k dv : D} {nv : Nat} : putAt E x k dv nv = (eg E x).bind fun p => (putOf p k dv nv).map fun r => E.set x (some r) := by
  unfold putAt putOf
  cases eg E x with
  | none => rfl
  | some p =>
    obtain ⟨d, n⟩ := p
    cases n with
    | zero => cases d <;> rfl
    | succ n =>
      cases d with
      | lst ds =>
        cases k with
        | int i => simp [Option.map_map, Function.comp_def]
        | _ => rfl
      | dK ds =>
        simp only [Option.bind_some]
        cases keyOf k with
        | none => rfl
        | some k' =>
          simp only [Option.bind_some]
          split <;> rfl
      | dT ds =>
        cases k with
        | tup ks =>
          simp only [Option.bind_some]
          cases keysOf ks with
          | none => rfl
          | some k' =>
            simp only [Option.bind_some]
            split <;> rfl
        | _ => rfl
      | _ => rfl
@[simp ↓] theorem W_putAt {E : Ev} {x : Nat} {k dv : D} {nv : Nat} {Q : Ev → Prop} : W (putAt E x k dv nv) Q ↔ W (eg E x) fun p => W (putOf p k dv nv) fun r => Q (E.set x (some r)) := by
  rw [putAt_of]
  exact W_bind.trans (W_ext fun p => W_map)
@[simp] theorem putOf_lst {ds : List D} {n nv : Nat} {i : Int} {dv : D} : putOf (.lst ds, n + 1) (.int i) dv nv = (ixN ds.length i).map fun j => (.lst (ds.set j dv), upl (n + 1) (.lst ds) dv nv) := rfl
end Zk
namespace Zk
open PySem PySem.Spec PyProof.Rows L2
open Sem (wp)
open AutoSeq1 (wpAny_loadPart')
theorem enum_newT (a : Addr) (xs : Array Value) (k : Nat) (dc : Option Addr) (ss : Array (Option Value)) :
    Meets (Builtin.«enumerate.__new__» ⟨[.type "enumerate", .ref a], []⟩) fun _ R s => s.heap.get? a = some { cls := .type "tuple", dict := dc, data := .seq xs k, slots := ss } ∧
      R (.ok (.ret (.ref (s.heap.push { cls := .type "tuple_iterator", data := .fields #[.ref a, .int 0 0] }).objs.size)))
        { s with heap := (s.heap.push { cls := .type "tuple_iterator", data := .fields #[.ref a, .int 0 0] }).push { cls := .type "enumerate", data := .fields #[.none, .bool false, .ref s.heap.objs.size, rawInt 0, .none, .none] } } :=
  .of_wp fun P w A R s q => by
    obtain ⟨hp, gs, dr, tk, os⟩ := s
    obtain ⟨ha, q⟩ := q
    have sub := sub_enumerate
    have hT : Heap.IsTuple (Shared.heap ⟨hp, gs, dr, tk, os⟩) a xs := ⟨_, ha, rfl, k, rfl⟩
    wp_walk using wpAny_loadPart' ha
    refine wpAny_stack_any fun st => ?_
    refine wpAny_pure ?_
    split
    · rename_i c _ _ _ _ _
      cases (c == Value.type "enumerate") <;>
      · wp_walk using wpAny_loadPart' ha, wpAny_pyIter_tuple hT
        exact ⟨_, rfl, q⟩
    · wp_walk using wpAny_loadPart' ha, wpAny_pyIter_tuple hT
      exact ⟨_, rfl, q⟩
section
variable {prog : Program} {w : World} {A : Around} {E : Value → Shared → Prop} {s : Shared}
theorem call_enumT {a : Addr} {xs : Array Value} {Q : Value → Shared → Prop} (hT : s.heap.IsTuple a xs)
    (q : ∀ h', IsEnum h' (s.heap.objs.size + 1) s.heap.objs.size 0 .none → h'.IsTupleIter s.heap.objs.size a 0 → h'.objs.size = s.heap.objs.size + 2 →
      (∀ b o, s.heap.get? b = some o → h'.get? b = some o) → Q (.ref (s.heap.objs.size + 1)) { s with heap := h' }) :
    wpAny (model prog w) A (call (.type "enumerate") [.ref a]) Q E s := by
  obtain ⟨⟨c, dc, dt, ss⟩, ha, hc, k, hd⟩ := hT
  simp only at hc hd
  subst hc hd
  refine callType_new F.called_enumerate (by decide) (F.typeCall_enumerate_1 _) (F.newCall_enumerate_1 _) (fun ob => F.args_object_init_2 ob _)
    F.entry_enumerate_new (enum_newT a xs k dc ss) ⟨ha, ?_⟩
  have sz : (s.heap.push { cls := .type "tuple_iterator", data := .fields #[.ref a, .int 0 0] }).objs.size = s.heap.objs.size + 1 := Heap.size_push ..
  show _ ∧ _
  rw [sz]
  have ie : IsEnum ((s.heap.push { cls := .type "tuple_iterator", data := .fields #[.ref a, .int 0 0] }).push { cls := .type "enumerate", data := .fields #[.none, .bool false, .ref s.heap.objs.size, rawInt 0, .none, .none] }) (s.heap.objs.size + 1) s.heap.objs.size 0 .none := by
    have z := Heap.get?_push_size (s.heap.push { cls := .type "tuple_iterator", data := .fields #[.ref a, .int 0 0] }) (o := { cls := .type "enumerate", data := .fields #[.none, .bool false, .ref s.heap.objs.size, rawInt 0, .none, .none] }) rfl
    rw [sz] at z
    exact z
  refine ⟨⟨_, ie, rfl⟩, q _ ie ⟨_, Heap.get?_push_of_some _ (Heap.get?_push_size _ rfl), rfl, rfl⟩ (by rw [Heap.size_push, sz]) ?_⟩
  exact fun b o x => Heap.get?_push_of_some _ (Heap.get?_push_of_some _ x)
end
/-- the tuple at a, its items in new pairs with their places -/
def ItEt (K : PySem.W.Frag) (a : Addr) : It :=
  ⟨fun i H => ∃ xs x, SqT K H a xs ∧ xs[i]? = some x,
    fun i H v H' => ∃ T x, v = .ref T ∧ H T = none ∧ H' = upd H T (.tup [.int (i : Nat), x]) ∧ ∀ xs, SqT K H a xs → xs[i]? = some x,
    fun i H => ∃ xs, SqT K H a xs ∧ xs.length = i⟩
theorem turn_enT {P : Program} {w : World} {K : PySem.W.Frag} {elts : List Expr} {kk : Nat} {tpos : PySem.Pos} (a e it : Addr) (h1 : e ≠ it) (h2 : a ≠ it) (h3 : e ≠ a) :
    Turn P w K (.Tuple elts kk tpos) (ItEt K a) [e, it] e fun i h => (∃ old, IsEnum h e it ((i : Nat) : Int) old) ∧ h.IsTupleIter it a i where
  mem := List.mem_cons_self
  obj := fun i h st b hb => by
    obtain ⟨⟨old, ie⟩, o, ho, hc, hd⟩ := st
    rcases List.mem_cons.mp hb with z | z
    · subst z; exact ⟨_, ie, fun v q => nomatch q⟩
    · obtain rfl : b = it := by simpa using z
      exact ⟨o, ho, fun v q => by rw [hd] at q; cases q⟩
  keep := fun i h h' st k => by
    obtain ⟨⟨old, ie⟩, ii⟩ := st
    exact ⟨⟨old, k e (by simp) _ ie⟩, ii.at fun o q => k it (by simp) o q⟩
  item := by
    intro X hP hw hK hc i pins s σ H E I hf st hg
    subst hP hw hK
    obtain ⟨⟨old, ie⟩, ii⟩ := st
    obtain ⟨xs, x, hq, hx⟩ := hg
    obtain ⟨its, rv, p, hz⟩ := I.tuple hq
    obtain ⟨u, hu, ru⟩ := rv.get hx
    have hlen : i < its.toArray.size := by
      have := (List.getElem?_eq_some_iff.mp hu).1
      simpa using this
    have hel : e < s.heap.objs.size := Heap.lt_size ie
    have hil : it < s.heap.objs.size := by obtain ⟨_, q, _⟩ := ii; exact Heap.lt_size q
    have D := Draws.tuple (prog := X.prog) (w := X.w) (A := X.A.in1) (by have := I.ok.hd hc; exact this) it a h2 its.toArray
    refine wpAny_pyNext_enum_itemD D ie ⟨ii, p⟩ hlen h1 (by simp [h1, h3]) fun y h' tk hy io st' hT hsz hk => ?_
    have ey : y = u := by
      have z : its.toArray[i]? = some u := by simpa using hu
      rw [z] at hy
      exact (Option.some.inj hy).symm
    subst ey
    refine ⟨_, rfl, wpAny_letOwnedTupleGo_enum (s := { s with heap := h', toks := tk + 1 }) io fun h2' ie' sb => ?_⟩
    have hT2 : h2'.get? s.heap.objs.size = some { cls := .type "tuple", data := .seq #[.int i tk, y] } := (sb.2 _ (Nat.ne_of_gt hel)).trans hT
    have new : ObjOk X.prog X.w (upd H s.heap.objs.size (.tup [.int (i : Nat), x])) h2' s.heap.objs.size (.tup [.int (i : Nat), x]) :=
      ⟨by show 2 ≤ sizeLine; decide, [.int i tk, y], .cons ⟨_, rfl⟩ (.cons ru .nil), ⟨_, hT2, rfl, _, rfl⟩⟩
    have I1 : Inv X pins σ (upd H s.heap.objs.size (.tup [.int (i : Nat), x])) { s with heap := h2', toks := tk + 1 } :=
      I.turnedNew (ch := [e, it]) (fun b ob hb q => (sb.2 b fun z => hb (by simp [z])).trans (hk b ob (fun z => hb (by simp [z])) (fun z => hb (by simp [z])) q)) hf (Nat.le_refl _) new
    refine ⟨.ref s.heap.objs.size, _, I1, rfl, ⟨_, x, rfl, I.hok.fresh (Nat.le_refl _), rfl, fun ys hy => by rw [I.tuple_inj hy hq]; exact hx⟩, ⟨⟨y, ?_⟩, st'.1.at fun o q => (sb.2 it (Ne.symm h1)).trans q⟩, fun b hb => ?_⟩
    · have e1 : ((i + 1 : Nat) : Int) = (i : Int) + 1 := by omega
      rw [e1]; exact ie'
    · have hb' : b < s.heap.objs.size := by
        rcases List.mem_cons.mp hb with z | z
        · rw [z]; exact hel
        · obtain rfl : b = it := by simpa using z
          exact hil
      rw [upd_ne (Nat.ne_of_lt hb')]
      exact (hf b hb).1
  done := by
    intro X hP hw hK hc i pins s σ H E I hf st hg
    subst hP hw hK
    obtain ⟨⟨old, ie⟩, ii⟩ := st
    obtain ⟨xs, hq, hx⟩ := hg
    obtain ⟨its, rv, p, hz⟩ := I.tuple hq
    obtain ⟨f0, f1, f2, f3, f4, f5⟩ := hf it (by simp)
    have D := Draws.tuple (prog := X.prog) (w := X.w) (A := X.A.in1) (by have := I.ok.hd hc; exact this) it a h2 its.toArray
    have en : i = its.toArray.size := by
      have := rv.length
      simp
      omega
    subst en
    exact wpAny_pyNext_enum_endD D ie ⟨ii, p⟩ fun h' eb => ⟨rfl, I.turned (t' := s.toks) (fun b o hb q => eb b o hb q) f0 f1 f3 f4 f5⟩
  self := fun A i s Q E st h => by
    obtain ⟨⟨_, ie⟩, _⟩ := st
    exact wpAny_pyIter_enum ie h
/-- enumerate(tuple) -/
def iEnT (K : PySem.W.Frag) (ta : TA) : TI := fun σ H R => ta σ H fun vs H1 => ∃ a xs, vs = [.ref a] ∧ SqT K H1 a xs ∧ R (ItEt K a) H1
theorem pi_enT {X : Cx} {e : Expr} {ta : TA} {p pos tpos : PySem.Pos} {elts : List Expr} {kk : Nat} (hg : Gl X "enumerate") (hm : X.mg "enumerate" = none) (ha : PA X [e] ta) (hs : starEach [e] X.env = [(false, eval e X.env)] := by rfl) :
    PI X (.Tuple elts kk tpos) (.Call (.Name "enumerate" p) [e] [] pos) (iEnT X.K ta) := by
  refine ⟨fun pins s σ H R I h => ?_⟩
  refine Call_ (ld_blt I hg hm boot_enumerate (PyProof.Rows.callWith_type1 (thn (ha.run pos pins s σ H _ I h) fun us s1 ⟨vs, H1, I1, r1, q1⟩ => ?_) hs rfl))
  obtain ⟨a, xs, rfl, hq, q⟩ := q1
  cases r1 with
  | cons r rr =>
    cases rr
    cases r
    obtain ⟨its, rv, p', hz⟩ := I1.tuple hq
    have la : a < s1.heap.objs.size := by obtain ⟨o, ho, _⟩ := p'; exact Heap.lt_size ho
    refine call_enumT p' fun h' ie ii hsz hk => wpAny_pyIter_enum ie ?_
    have I2 : Inv X pins σ H1 { s1 with heap := h' } := I1.kept (t' := s1.toks) hk
    refine ⟨s1.heap.objs.size + 1, [s1.heap.objs.size + 1, s1.heap.objs.size], _, _, H1, rfl, I2, turn_enT a (s1.heap.objs.size + 1) s1.heap.objs.size (Nat.succ_ne_self _) (Nat.ne_of_lt la) (Ne.symm (Nat.ne_of_lt (Nat.lt_succ_of_lt la))), ⟨⟨.none, ie⟩, ii⟩, fun b hb => ?_, q⟩
    have hle : s1.heap.objs.size ≤ b := by
      rcases List.mem_cons.mp hb with z | z
      · rw [z]; exact Nat.le_add_right _ _
      · obtain rfl : b = s1.heap.objs.size := by simpa using z
        exact Nat.le_refl _
    exact I1.fpOk hle (I1.hok.fresh hle)
def enD (k : Nat) : List D → List D
  | [] => []
  | d :: ds => .tup [.int (k : Nat), d] :: enD (k + 1) ds
@[simp] theorem enD_len (ds : List D) : ∀ k, (enD k ds).length = ds.length := by
  induction ds with
  | nil => intro k; rfl
  | cons d ds ih => intro k; simp [enD, ih]
theorem enD_get (ds : List D) : ∀ (k i : Nat), (enD k ds)[i]? = (ds[i]?).map fun d => .tup [.int ((k + i : Nat)), d] := by
  induction ds with
  | nil => intro k i; simp [enD]
  | cons d ds ih =>
    intro k i
    cases i with
    | zero => simp [enD]
    | succ i =>
      simp only [enD, List.getElem?_cons_succ, ih]
      rw [show k + 1 + i = k + (i + 1) by omega]
def mEnu (f : Fe) : Fi := fun E => (f E).bind fun p => (tk p.2 p.1).bind fun q => match q.1 with
  | .lst ds => some (enD 0 ds, q.2.2)
  | .tup ds => some (enD 0 ds, q.2.2)
  | .con ds => some (enD 0 ds, q.2.2)
  | _ => none
section
variable {K : PySem.W.Frag} {Z Z' : Addr → Prop} {H H' : Hp} {σ : L2.St} {E E' : Ev} {R R' : Rs}
theorem iok_enL {a : Addr} {vs : List V} {ds : List D} (z : Z a) (h : H a = some (.lst vs)) (r : Rps K Z H vs ds) : IOk K (Ite K a) (enD 0 ds) Z H where
  go := fun Z2 H2 i p hi => by
    rw [enD_len] at hi
    obtain ⟨v, hv, _⟩ := r.getD (List.getElem?_eq_getElem hi)
    exact ⟨vs, v, .inl (.inl (p.hz a _ z h)), hv⟩
  stop := fun Z2 H2 p => ⟨vs, .inl (.inl (p.hz a _ z h)), by rw [r.len, enD_len]; exact Nat.le_refl _⟩
  yld := fun Z2 H2 i x H3 p hi y => by
    obtain ⟨T, u, rfl, hT, rfl, f⟩ := y
    have hx := f vs (.inl (.inl (p.hz a _ z h)))
    obtain ⟨d, hd, rd⟩ := (r.pers p).get hx
    have m : More H2 (upd H2 T (.tup [.int (i : Nat), u])) := .upd hT
    refine ⟨m, .tup [.int ((0 + i : Nat)), d], by rw [enD_get, hd]; rfl, .tup upd_same (.cons ?_ (.cons (rd.pers (m.pers fun _ h => h)) .nil))⟩
    rw [Nat.zero_add]; exact .int _
theorem iok_enT {a : Addr} {vs : List V} {ds : List D} (h : ∀ Z2 H2, Pers Z H Z2 H2 → SqT K H2 a vs) (r : Rps K Z H vs ds) : IOk K (ItEt K a) (enD 0 ds) Z H where
  go := fun Z2 H2 i p hi => by
    rw [enD_len] at hi
    obtain ⟨v, hv, _⟩ := r.getD (List.getElem?_eq_getElem hi)
    exact ⟨vs, v, h _ _ p, hv⟩
  stop := fun Z2 H2 p => ⟨vs, h _ _ p, by rw [r.len, enD_len]⟩
  yld := fun Z2 H2 i x H3 p hi y => by
    obtain ⟨T, u, rfl, hT, rfl, f⟩ := y
    have hx := f vs (h _ _ p)
    obtain ⟨d, hd, rd⟩ := (r.pers p).get hx
    have m : More H2 (upd H2 T (.tup [.int (i : Nat), u])) := .upd hT
    refine ⟨m, .tup [.int ((0 + i : Nat)), d], by rw [enD_get, hd]; rfl, .tup upd_same (.cons ?_ (.cons (rd.pers (m.pers fun _ h => h)) .nil))⟩
    rw [Nat.zero_add]; exact .int _
theorem enu_of {f : Fe} {Rk : It → Hp → Prop} (q : iOf K (mEnu f) σ H Rk) : iEnum K (aOf K (mAc f mA0)) σ H Rk ∨ iEnT K (aOf K (mAc f mA0)) σ H Rk := by
  obtain ⟨Z, E, R, s, its, E', e, q⟩ := q
  unfold mEnu at e
  cases e1 : f E with
  | none => rw [e1] at e; cases e
  | some p =>
    obtain ⟨o, E1⟩ := p
    rw [e1] at e
    simp only [Option.bind_some] at e
    have ea : mAc f mA0 E = some ([o], E1) := by unfold mAc mA0; rw [e1]; rfl
    cases e2 : tk E1 o with
    | none => rw [e2] at e; cases e
    | some p2 =>
      obtain ⟨d, n, E2⟩ := p2
      rw [e2] at e
      simp only [Option.bind_some] at e
      have one : ∀ {vs : List V} {rss : List (List Addr)} {Z1 : Addr → Prop} {H1 : Hp}, All3 (OV K Z1 H1 σ) vs [o] rss → ∃ v rs, vs = [v] ∧ rss = [rs] ∧ OV K Z1 H1 σ v o rs := fun h => by
        cases h with
        | cons h t => cases t; exact ⟨_, _, rfl, rfl, h⟩
      have fr1 : ∀ {R1 : Rs} {rs : List Addr}, Fr R H R1 ([rs] : List (List Addr)).flatten → Fr R H R1 rs := fun {R1 rs} h => by simpa using h
      cases d with
      | lst ds =>
        cases e
        refine .inl ⟨Z, E, R, s, [o], E1, ea, fun vs Z1 H1 R1 rss s1 t1 a1 f1 => ?_⟩
        obtain ⟨v, rs, rfl, rfl, ov⟩ := one a1
        obtain ⟨Z2, R2, s2, t2, r⟩ := s1.takeFrz t1 ov (fr1 f1) e2
        cases r with
        | lst z h r => exact ⟨_, _, rfl, .inl (.inl h), q _ Z2 H1 R2 s2 t2 (iok_enL z h r)⟩
      | tup ds =>
        cases e
        refine .inr ⟨Z, E, R, s, [o], E1, ea, fun vs Z1 H1 R1 rss s1 t1 a1 f1 => ?_⟩
        obtain ⟨v, rs, rfl, rfl, ov⟩ := one a1
        obtain ⟨Z2, R2, s2, t2, r⟩ := s1.takeFrz t1 ov (fr1 f1) e2
        cases r with
        | tup h r => exact ⟨_, _, rfl, .of h, q _ Z2 H1 R2 s2 t2 (iok_enT (fun Z3 H3 p => .of (p.tp _ _ h fun z => z)) r)⟩
      | con ds =>
        cases e
        refine .inr ⟨Z, E, R, s, [o], E1, ea, fun vs Z1 H1 R1 rss s1 t1 a1 f1 => ?_⟩
        obtain ⟨v, rs, rfl, rfl, ov⟩ := one a1
        obtain ⟨Z2, R2, s2, t2, r⟩ := s1.takeFrz t1 ov (fr1 f1) e2
        cases r with
        | con h r => exact ⟨_, _, rfl, h.sq, q _ Z2 H1 R2 s2 t2 (iok_enT (fun Z3 H3 p => h.sq) r)⟩
      | _ => cases e
end
section
variable {X : Cx} {e : Expr} {fe : Fe} {p pos tpos : PySem.Pos} {elts : List Expr} {kk : Nat}
theorem ai_enu (he : AE X e fe) (hg : Gl X "enumerate") (hm : X.mg "enumerate" = none) (hs : starEach [e] X.env = [(false, eval e X.env)] := by rfl) : AI X (.Tuple elts kk tpos) (.Call (.Name "enumerate" p) [e] [] pos) (mEnu fe) :=
  PI.mono (PI.or (pi_enum hg hm (aa_cons he aa_nil hs) hs) (pi_enT hg hm (aa_cons he aa_nil hs) hs)) fun σ H R q => enu_of q
end
@[simp ↓] theorem W_enu {a : Fe} {E : Ev} {Q : List D × Ev → Prop} : W (mEnu a E) Q ↔ W (a E) fun p => W (tk p.2 p.1) fun q => (match q.1 with | .lst ds => Q (enD 0 ds, q.2.2) | .tup ds => Q (enD 0 ds, q.2.2) | .con ds => Q (enD 0 ds, q.2.2) | _ => False) := by
  unfold mEnu
  refine W_bind.trans (W_ext fun p => W_bind.trans (W_ext fun q => ?_))
  obtain ⟨d, n, E2⟩ := q
  cases d <;> simp
end Zk
namespace Zk
open PySem PySem.Spec PyProof.Rows L2 RZ RT
section
variable {K : PySem.W.Frag} {Z Z' Z0 : Addr → Prop} {H H' H0 : Hp} {σ : L2.St} {E E' : Ev} {R R' R0 : Rs}
/-- ends, taken and frozen -/
theorem S.takeLFrz (s : S K Z H σ E R) (t0 : Step Z0 H0 (ow R0) Z H (ow R)) {vs : List V} {os : List Op} {ds : List (D × Nat)} {rss : List (List Addr)} (h : All3 (OV K Z H σ) vs os rss) (f : Fr R0 H0 R rss.flatten) (e : tkL E os = some (ds, E')) :
    ∃ Z' R', S K Z' H σ E' R' ∧ Step Z0 H0 (ow R0) Z' H (ow R') ∧ Rps K Z' H vs (ds.map (·.1)) := by
  obtain ⟨Z2, R2, s2, t2, tl, no2, sub2⟩ := s.takeL h f.no e
  refine ⟨_, R2, s2.chill no2 (TL.there tl), (t0.trans t2).fin (fun _ h => .inl h) (fun a z => ?_) (.refl _) fun a h => .inl h, tl.froz ⟨fun _ h => .inl h, fun _ _ _ h => h, fun _ _ h _ => h⟩ fun a m => ⟨rfl, .inr m⟩⟩
  rcases z with z | z
  · exact .inl z
  · rcases f.of a z with z | z
    · exact .inr (.inr (.inl z))
    · exact .inr (.inr (.inr z))
def ziD : List D → List D → List D
  | x :: xs, y :: ys => .tup [x, y] :: ziD xs ys
  | _, _ => []
theorem ziD_get : ∀ (xs ys : List D) (i : Nat), (ziD xs ys)[i]? = (xs[i]?).bind fun x => (ys[i]?).map fun y => .tup [x, y]
  | [], ys, i => by simp [ziD]
  | x :: xs, [], i => by
    simp only [ziD]
    cases (x :: xs)[i]? <;> simp
  | x :: xs, y :: ys, 0 => by simp [ziD]
  | x :: xs, y :: ys, i + 1 => by simp [ziD, ziD_get xs ys i]
@[simp] theorem ziD_len : ∀ (xs ys : List D), (ziD xs ys).length = min xs.length ys.length
  | [], ys => by simp [ziD]
  | x :: xs, [] => by simp [ziD]
  | x :: xs, y :: ys => by simp [ziD, ziD_len xs ys]
def mZip (f g : Fe) : Fi := fun E => (mAc f (mAc g mA0) E).bind fun p => (tkL p.2 p.1).bind fun q => match q.1 with
  | [(.lst xs, _), (.lst ys, _)] => some (ziD xs ys, q.2)
  | [(.tup xs, _), (.tup ys, _)] => some (ziD xs ys, q.2)
  | _ => none
theorem iok_zip {J : It} {vs us : List V} {xs ys : List D} (rx : Rps K Z H vs xs) (ry : Rps K Z H us ys)
    (go : ∀ Z2 H2 i x y, Pers Z H Z2 H2 → vs[i]? = some x → us[i]? = some y → J.go i H2)
    (stop : ∀ Z2 H2 i, Pers Z H Z2 H2 → vs.length ≤ i ∨ us.length ≤ i → J.stop i H2)
    (yld : ∀ Z2 H2 i x H3, Pers Z H Z2 H2 → J.yld i H2 x H3 → ∃ T u w, x = .ref T ∧ H2 T = none ∧ H3 = upd H2 T (.tup [u, w]) ∧ vs[i]? = some u ∧ us[i]? = some w) : IOk K J (ziD xs ys) Z H where
  go := fun Z2 H2 i p hi => by
    rw [ziD_len] at hi
    obtain ⟨v, hv, _⟩ := rx.getD (List.getElem?_eq_getElem (show i < xs.length by omega))
    obtain ⟨u, hu, _⟩ := ry.getD (List.getElem?_eq_getElem (show i < ys.length by omega))
    exact go Z2 H2 i v u p hv hu
  stop := fun Z2 H2 p => stop Z2 H2 _ p (by rw [rx.len, ry.len, ziD_len]; omega)
  yld := fun Z2 H2 i x H3 p hi y => by
    obtain ⟨T, u, w, rfl, hT, rfl, f, g⟩ := yld Z2 H2 i x H3 p y
    obtain ⟨d, hd, rd⟩ := (rx.pers p).get f
    obtain ⟨d2, hd2, rd2⟩ := (ry.pers p).get g
    have m : More H2 (upd H2 T (.tup [u, w])) := .upd hT
    exact ⟨m, .tup [d, d2], by rw [ziD_get, hd, hd2]; rfl, .tup upd_same (.cons (rd.pers (m.pers fun _ h => h)) (.cons (rd2.pers (m.pers fun _ h => h)) .nil))⟩
theorem zip_of {f g : Fe} {Rk : It → Hp → Prop} (q : iOf K (mZip f g) σ H Rk) : iZipA K (aOf K (mAc f (mAc g mA0))) σ H Rk := by
  obtain ⟨Z, E, R, s, its, E', e, q⟩ := q
  unfold mZip at e
  cases e1 : mAc f (mAc g mA0) E with
  | none => rw [e1] at e; cases e
  | some p =>
    obtain ⟨os, E1⟩ := p
    rw [e1] at e
    simp only [Option.bind_some] at e
    cases e2 : tkL E1 os with
    | none => rw [e2] at e; cases e
    | some p2 =>
      obtain ⟨ds, E2⟩ := p2
      rw [e2] at e
      simp only [Option.bind_some] at e
      refine ⟨Z, E, R, s, os, E1, e1, fun vs Z1 H1 R1 rss s1 t1 a1 f1 => ?_⟩
      obtain ⟨Z2, R2, s2, t2, rp⟩ := s1.takeLFrz t1 a1 f1 e2
      split at e
      · cases e
        obtain ⟨v, u, rfl, r1, r2⟩ := rp.two
        cases r1 with
        | lst z1 h1 x1 =>
          cases r2 with
          | lst z2 h2 x2 =>
            refine ⟨_, _, _, _, rfl, .inl ⟨.inl (.inl h1), .inl (.inl h2), q _ Z2 H1 R2 s2 t2 (iok_zip x1 x2 (fun Z3 H3 i x y p a b => ?_) (fun Z3 H3 i p a => ?_) fun Z3 H3 i x H4 p y => ?_)⟩⟩
            · exact ⟨_, _, x, y, .inl (.inl (p.hz _ _ z1 h1)), .inl (.inl (p.hz _ _ z2 h2)), a, b⟩
            · exact ⟨_, _, .inl (.inl (p.hz _ _ z1 h1)), .inl (.inl (p.hz _ _ z2 h2)), a⟩
            · obtain ⟨T, u, w, e1, e2, e3, f, g⟩ := y
              exact ⟨T, u, w, e1, e2, e3, f _ (.inl (.inl (p.hz _ _ z1 h1))), g _ (.inl (.inl (p.hz _ _ z2 h2)))⟩
      · cases e
        obtain ⟨v, u, rfl, r1, r2⟩ := rp.two
        cases r1 with
        | tup h1 x1 =>
          cases r2 with
          | tup h2 x2 =>
            refine ⟨_, _, _, _, rfl, .inr ⟨.of h1, .of h2, q _ Z2 H1 R2 s2 t2 (iok_zip x1 x2 (fun Z3 H3 i x y p a b => ?_) (fun Z3 H3 i p a => ?_) fun Z3 H3 i x H4 p y => ?_)⟩⟩
            · exact ⟨_, _, x, y, .of (p.tp _ _ h1 fun z => z), .of (p.tp _ _ h2 fun z => z), a, b⟩
            · exact ⟨_, _, .of (p.tp _ _ h1 fun z => z), .of (p.tp _ _ h2 fun z => z), a⟩
            · obtain ⟨T, u, w, e1, e2, e3, f, g⟩ := y
              exact ⟨T, u, w, e1, e2, e3, f _ (.of (p.tp _ _ h1 fun z => z)), g _ (.of (p.tp _ _ h2 fun z => z))⟩
      · cases e
end
section
variable {X : Cx} {tg e e2 : Expr} {fe f2 : Fe} {p pos tpos : PySem.Pos} {elts : List Expr} {kk : Nat}
theorem ai_zip (he : AE X e fe) (h2 : AE X e2 f2) (hg : Gl X "zip") (hm : X.mg "zip" = none) (hs : starEach [e, e2] X.env = (false, eval e X.env) :: starEach [e2] X.env := by rfl) (hs2 : starEach [e2] X.env = (false, eval e2 X.env) :: starEach [] X.env := by rfl)
    (hpl : (backTo pos (starEach [e2] X.env)).any (·.1) = false := by rfl) : AI X (.Tuple elts kk tpos) (.Call (.Name "zip" p) [e, e2] [] pos) (mZip fe f2) :=
  PI.mono (pi_zipA hg hm (aa_cons he (aa_cons h2 aa_nil hs2) hs) hs hpl) fun σ H R q => zip_of q
end
@[simp ↓] theorem W_zip {a b : Fe} {E : Ev} {Q : List D × Ev → Prop} : W (mZip a b E) Q ↔ W (a E) fun p => W (b p.2) fun p2 => W (tkL p2.2 [p.1, p2.1]) fun q => (match q.1 with | [(.lst xs, _), (.lst ys, _)] => Q (ziD xs ys, q.2) | [(.tup xs, _), (.tup ys, _)] => Q (ziD xs ys, q.2) | _ => False) := by
  unfold mZip
  refine W_bind.trans ?_
  simp only [W_ac, W_a0]
  refine W_ext fun p => ?_
  simp only [W_ac, W_a0]
  refine W_ext fun p2 => ?_
  refine W_a0.trans ?_
  refine W_bind.trans (W_ext fun q => ?_)
  split <;> simp
end Zk
namespace Zk
open PySem PySem.Spec PyProof.Rows L2
section
variable {K : PySem.W.Frag} {H : Hp} {σ : L2.St}
def gBits : List D → Option D
  | [.int a] => some (.int (Builtin.Int.intBits a))
  | _ => none
@[simp] theorem gBits_int (a : Int) : gBits [.int a] = some (.int (Builtin.Int.intBits a)) := rfl
def mBits (a : Fe) : Fe := mRO gBits (mA1 a)
end
section
variable {X : Cx} {o e : Expr} {es : List Expr} {fe : Fe} {fa : Fa} {p pos apos : PySem.Pos} {x : Str}
theorem ro_bits {K : PySem.W.Frag} : RO K (fun xs H Q => ∃ x, xs = [x] ∧ ∃ i, x = .int i ∧ Q (.int (Builtin.Int.intBits i : Nat)) H) gBits := by
  refine ⟨fun ds d e => ?_, fun H vs ds d Q r e q => ?_⟩
  · unfold gBits at e
    split at e
    · cases e; simp
    · cases e
  · unfold gBits at e
    split at e
    · cases e
      obtain ⟨x, rfl, h1⟩ := r.one
      exact ⟨x, rfl, _, h1.intE, q _ (.int _)⟩
    · cases e
theorem ae_bits (ho : AE X o fe) (hbase : attributeBase o "bit_length" X.env (eval o X.env) = eval o X.env := by rfl) (hline : (apos.endLine == pos.line) = true := by rfl) : AE X (.Call (.Attribute o "bit_length" apos) [] [] pos) (mBits fe) :=
  PE.mono (pe_bits ho hbase hline) fun σ H Q q => by
    have z := aOf_1 (ro_of ro_bits q)
    exact eOf_imp (fun x H1 ⟨y, e, i, ei, q⟩ => ⟨i, by cases e; exact ei, q⟩) z
end
@[simp ↓] theorem W_bits {a : Fe} {E : Ev} {Q : Op × Ev → Prop} : W (mBits a E) Q ↔ W (mRO gBits (mA1 a) E) Q := Iff.rfl
end Zk
namespace Zk
open PySem PySem.Spec PyProof.Rows L2
theorem W_whI {c : Ft} {s : Fs} {E : Ev} {Q : Fl × Ev → Prop} (I : Nat → Ev → Prop) {k : Nat} (h0 : I k E)
    (st : ∀ k E, I k E → W (c E) fun p => IfB p.1 (W (s p.2) fun q => (match q.1 with
      | .nx => ∃ j, j < k ∧ I j q.2 | .ct => ∃ j, j < k ∧ I j q.2 | .bk => Q (.nx, q.2) | .rt d n => Q (.rt d n, q.2))) (Q (.nx, p.2))) : W (mWhile c s E) Q := by
  have go : ∀ (k : Nat) (E : Ev), I k E → ∃ n r, whileF c s n E = some r ∧ Q r := by
    intro k
    induction k using Nat.strongRecOn with
    | ind k ih =>
      intro E i
      obtain ⟨p, e1, hp⟩ := st k E i
      obtain ⟨b, E1⟩ := p
      cases b with
      | false =>
        rw [IfB_f] at hp
        exact ⟨1, (.nx, E1), by simp only [whileF]; rw [e1]; rfl, hp⟩
      | true =>
        rw [IfB_t] at hp
        obtain ⟨q, e2, hq⟩ := hp
        obtain ⟨fl, E2⟩ := q
        cases fl with
        | nx =>
          obtain ⟨j, hj, ij⟩ := hq
          obtain ⟨n, r, e3, hr⟩ := ih j hj E2 ij
          refine ⟨n + 1, r, ?_, hr⟩
          simp only [whileF]
          rw [e1]
          simp only [Option.bind_some, if_true]
          rw [e2]
          exact e3
        | ct =>
          obtain ⟨j, hj, ij⟩ := hq
          obtain ⟨n, r, e3, hr⟩ := ih j hj E2 ij
          refine ⟨n + 1, r, ?_, hr⟩
          simp only [whileF]
          rw [e1]
          simp only [Option.bind_some, if_true]
          rw [e2]
          exact e3
        | bk =>
          refine ⟨1, (.nx, E2), ?_, hq⟩
          simp only [whileF]
          rw [e1]
          simp only [Option.bind_some, if_true]
          rw [e2]
          rfl
        | rt d n =>
          refine ⟨1, (.rt d n, E2), ?_, hq⟩
          simp only [whileF]
          rw [e1]
          simp only [Option.bind_some, if_true]
          rw [e2]
          rfl
  obtain ⟨n, r, e, q⟩ := go k E h0
  exact ⟨r, mWhile_some.mpr ⟨n, e⟩, q⟩
end Zk
namespace Zk
open PySem PySem.Spec PyProof.Rows L2
section
variable {E0 : Ev} {g : Fg} {f : Fe} {is : List Nat} {α : Type} {xs : List α} {ι : α → D} {Q : List (D × Nat) × Ev → Prop}
/-- all of them, no filter -/
theorem W_lcY {c : Ft} (ρ : α → D) (hρ : ∀ x, imm (ρ x) = true) (hl : xs.length < sizeLine)
    (st : ∀ x ∈ xs, W (g (ι x) E0) fun E1 => W (c E1) fun q => q.1 = true ∧ W (f q.2) fun r => W (tk r.2 r.1) fun t => t.1 = ρ x ∧ wipeE t.2.2 is = E0)
    (fin : ∀ acc : List (D × Nat), acc.map (·.1) = xs.map ρ → uni acc = 9 → Q (acc, E0)) : W (lcM g c f is (xs.map ι) E0 []) Q :=
  W_lcX (p := fun _ => true) ρ hρ hl (fun x hx => (st x hx).mono fun E1 h => h.mono fun q h => by
    rw [h.1, IfB_t]; exact ⟨rfl, h.2⟩) fun acc ha hu => fin acc (by rw [ha, List.filter_eq_self.mpr (by simp)]) hu
/-- ints -/
theorem W_lcN {c : Ft} (v : α → Int) (hl : xs.length < sizeLine)
    (st : ∀ x ∈ xs, W (g (ι x) E0) fun E1 => W (c E1) fun q => q.1 = true ∧ W (f q.2) fun r => W (tk r.2 r.1) fun t => t.1 = .int (v x) ∧ wipeE t.2.2 is = E0)
    (fin : ∀ acc : List (D × Nat), acc.map (·.1) = (xs.map v).map D.int → uni acc = 9 → Q (acc, E0)) : W (lcM g c f is (xs.map ι) E0 []) Q :=
  W_lcY (fun x => .int (v x)) (fun _ => by simp) hl st fun acc ha hu => fin acc (by rw [ha, List.map_map]; rfl) hu
/-- bools -/
theorem W_lcB {c : Ft} (v : α → Bool) (hl : xs.length < sizeLine)
    (st : ∀ x ∈ xs, W (g (ι x) E0) fun E1 => W (c E1) fun q => q.1 = true ∧ W (f q.2) fun r => W (tk r.2 r.1) fun t => t.1 = .bl (v x) ∧ wipeE t.2.2 is = E0)
    (fin : ∀ acc : List (D × Nat), acc.map (·.1) = (xs.map v).map D.bl → uni acc = 9 → Q (acc, E0)) : W (lcM g c f is (xs.map ι) E0 []) Q :=
  W_lcY (fun x => .bl (v x)) (fun _ => by simp) hl st fun acc ha hu => fin acc (by rw [ha, List.map_map]; rfl) hu
end
theorem rng0 (n : Nat) : rng 0 n = (List.range n).map fun b : Nat => D.int (b : Int) := by
  unfold rng
  refine List.map_congr_left fun b _ => ?_
  simp
@[simp] theorem gAny_bl (bs : List Bool) : gAny [.lst (bs.map D.bl)] = some (.bl (bs.any id), 9) := by simp [gAny]
theorem dat_bls (n : Nat) (bs : List Bool) (h : bs.length ≤ sizeLine) : dat (n + 2) (.lst (bs.map D.bl)) = true := by
  simp [dat, h]
theorem gIn_bl (neg b : Bool) (bs : List Bool) (h : bs.length ≤ sizeLine) : gInA neg [.bl b, .lst (bs.map D.bl)] = some (.bl (bs.contains b ^^ neg), 9) := by
  have e : gInA neg [.bl b, .lst (bs.map D.bl)] = gIn neg [.bl b, .lst (bs.map D.bl)] := rfl
  have d1 : dat 64 (.bl b) = true := rfl
  rw [e]
  simp only [gIn, d1, dat_bls 62 bs h, and_self, if_true, List.any_map]
  congr 3
  rw [List.contains_eq_any_beq]
  have e2 : (fun z => deq z (D.bl b)) ∘ D.bl = fun x => b == x := by
    funext z
    simp [deq, py, PyData.eqv]
    cases z <;> cases b <;> rfl
  rw [e2]
section
variable {X : Cx} {a b : Expr} {fa fb : Fe} {pos : PySem.Pos}
end
end Zk
namespace Zk
open PySem PySem.Spec PyProof.Rows L2
theorem W_O {α : Type} {x : Option α} {Q : α → Prop} (h : ∀ Q' : α → Prop, (∀ a, Q a → Q' a) → W x Q') : W x Q := h Q fun _ h => h
theorem W_seqO {s t : Fs} {E : Ev} {Q : Fl × Ev → Prop} (J : Ev → Prop) (h : ∀ J' : Ev → Prop, (∀ E, J E → J' E) → W (s E) fun p => p.1 = .nx ∧ J' p.2) (k : ∀ E1, J E1 → W (t E1) Q) : W (mSeq s t E) Q :=
  W_seqJ J (h J fun _ h => h) k
section
variable {g : Fg} {body : Fs} {E : Ev} {Qs : Fl × Ev → Prop}
end
theorem W_whO {c : Ft} {s : Fs} {E : Ev} {Q : Fl × Ev → Prop} (I : Nat → Ev → Prop) {k : Nat} (h0 : I k E)
    (st : ∀ k E (I' : Ev → Prop), I k E → (∀ j E, j < k → I j E → I' E) → W (c E) fun p => IfB p.1 (W (s p.2) fun q => (match q.1 with
      | .nx => I' q.2 | .ct => I' q.2 | .bk => Q (.nx, q.2) | .rt d n => Q (.rt d n, q.2))) (Q (.nx, p.2))) : W (mWhile c s E) Q :=
  W_whI I h0 fun k E i => st k E (fun E => ∃ j, j < k ∧ I j E) i fun j E h i => ⟨j, h, i⟩
end Zk
namespace Zk
open PySem PySem.Spec PyProof.Rows L2
section
variable {K : PySem.W.Frag}
end
section
variable {X : Cx} {a b c : Expr} {fa fb fc : Fe} {pos : PySem.Pos}
end
section
variable {E : Ev} {a b c : Fe} {Qe : Op × Ev → Prop}
end
end Zk
set_option maxHeartbeats 4000000
namespace Zk
open PySem PySem.Spec PyProof.Rows L2
section
variable {prg : Program} {wd : World} {Ar : Around} {EE : Value → Shared → Prop} {sh : Shared}
end
section
variable {X : Cx} {a : Expr} {ta : TE} {p p2 q pos : PySem.Pos}
end
section
variable {K : PySem.W.Frag}
end
section
variable {X : Cx} {a : Expr} {fa : Fe} {p p2 q pos : PySem.Pos}
end
end Zk
namespace Zk
open PySem PySem.Spec PyProof.Rows L2
section
variable {K : PySem.W.Frag} {Z Z' Zf Z0 Z1 Z2 Z5 Z6 : Addr → Prop} {H H' H0 H1 H2 H5 H6 : Hp} {σ σ' τ : L2.St} {E E' E1 E2 EF : Ev} {R R' R0 R1 R2 R5 R6 Rw : Rs} {D0 : Addr} {accV : List V} {accD accF : List (D × Nat)} {rss : List (List Addr)}
/-- the new list at D0 and its items, told since Z1, H1, Rw -/
structure LS (K : PySem.W.Frag) (Z1 : Addr → Prop) (H1 : Hp) (Rw : Rs) (D0 : Addr) (Z2 : Addr → Prop) (H2 : Hp) (R2 : Rs) (accV : List V) (accD : List (D × Nat)) (rss : List (List Addr)) : Prop where
  h2D : H2 D0 = some (.lst accV)
  z2D : ¬ Z2 D0
  o2D : ¬ ow R2 D0
  tl : TL K Z2 H2 accV accD rss
  tnd : rss.flatten.Nodup
  tno : ∀ a ∈ rss.flatten, ¬ ow R2 a ∧ a ≠ D0 ∧ (ow Rw a ∨ H1 a = none)
  t2 : Step Z1 H1 (ow Rw) Z2 H2 (ow R2)
theorem LS.keep (L : LS K Z1 H1 Rw D0 Z2 H2 R2 accV accD rss) (s2 : S K Z2 H2 σ E2 R2) (t : Step Z2 H2 (ow R2) Z6 H6 (ow R6)) : LS K Z1 H1 Rw D0 Z6 H6 R6 accV accD rss := by
  obtain ⟨h2D, z2D, o2D, tl, tnd, tno, t2⟩ := L
  refine ⟨t.hh D0 _ h2D o2D, fun z => ?_, fun z => ?_, All3.imp tl fun v d rs m o => (s2.pend t o fun a ma => (tno a (mem_flatten_of m ma)).1).1, tnd, fun a ma => ⟨fun z => ?_, (tno a ma).2⟩, t2.trans t⟩
  · rcases t.zn D0 z with z | z | z
    · exact z2D z
    · rw [h2D] at z; cases z
    · exact o2D z
  · rcases t.on D0 z with z | z
    · exact o2D z
    · rw [h2D] at z; cases z
  · rcases t.on a z with z | z
    · exact (tno a ma).1 z
    · exact TL.there tl a ma z
/-- one item more -/
theorem LS.item {f : Fe} {o6 : Op} {E6 E7 : Ev} {dv : D} {nv : Nat} {Nx : Hp → Prop} (s5 : S K Z5 H5 τ E R5) (hD1 : H1 D0 = none) (L : LS K Z1 H1 Rw D0 Z5 H5 R5 accV accD rss) (e6 : f E = some (o6, E6)) (e7 : tk E6 o6 = some (dv, nv, E7)) (hsz : accD.length < sizeLine)
    (k : ∀ (y : V) (Z7 : Addr → Prop) (H7 : Hp) (R7 : Rs) (rs : List Addr), S K Z7 H7 τ E7 R7 → LS K Z1 H1 Rw D0 Z7 H7 R7 (accV ++ [y]) (accD ++ [(dv, nv)]) (rss ++ [rs]) → Pers Z5 H5 Z7 H7 → Nx H7) :
    eOf K f τ H5 fun y H7 => ∃ acc, H7 D0 = some (.lst acc) ∧ acc.length < sizeLine ∧ Nx (upd H7 D0 (.lst (acc ++ [y]))) := by
  refine ⟨Z5, E, R5, s5, o6, E6, e6, fun y6 Z6 H6 R6 rs6 s6 t6 ov6 f6 => ?_⟩
  obtain ⟨Z7, R7, s7, t7, o7, n7, sub7⟩ := s6.take ov6 f6.no e7
  have t57 := t6.trans t7
  have L7 := L.keep s5 t57
  have p57 := s5.pers t57
  refine ⟨accV, L7.h2D, by rw [TL.len L.tl]; exact hsz, ?_⟩
  have neD : ∀ a ∈ rs6, a ≠ D0 := fun a ma e => by
    subst e
    rcases f6.of a ma with z | z
    · exact L.o2D z
    · rw [L.h2D] at z; cases z
  have apart : ∀ a ∈ rs6, a ∉ rss.flatten := fun a ma z => by
    rcases f6.of a ma with y | y
    · exact (L.tno a z).1 y
    · exact TL.there L.tl a z y
  obtain ⟨s8, p8⟩ := s7.free (o' := .lst (accV ++ [y6])) L7.h2D trivial L7.o2D L7.z2D
  have tl8 : TL K Z7 (upd H6 D0 (.lst (accV ++ [y6]))) (accV ++ [y6]) (accD ++ [(dv, nv)]) (rss ++ [rs6]) :=
    All3.append (All3.imp L7.tl fun v d rs m o => o.keep p8 fun a ma => ⟨upd_ne (L7.tno a (mem_flatten_of m ma)).2.1, (o.mut a ma).2⟩)
      (.cons (o7.keep p8 fun a ma => ⟨upd_ne (neD a ma), (o7.mut a ma).2⟩) .nil)
  have t8 : Step Z1 H1 (ow Rw) Z7 (upd H6 D0 (.lst (accV ++ [y6]))) (ow R7) := by
    have tt := L7.t2
    refine ⟨tt.zz, tt.zn, fun a o ho h => ?_, tt.on, fun a h e => ?_⟩
    · have ne : a ≠ D0 := fun e => by rw [e, hD1] at ho; cases ho
      rw [upd_ne ne]; exact tt.hh a o ho h
    · by_cases ca : a = D0
      · rw [ca, upd_same] at e; cases e
      · rw [upd_ne ca] at e; exact tt.dm a h e
  refine k y6 Z7 _ R7 rs6 s8 ⟨upd_same, L7.z2D, L7.o2D, tl8, ?_, fun a ma => ?_, t8⟩ (p57.trans p8)
  · rw [List.flatten_append]
    simp only [List.flatten_cons, List.flatten_nil, List.append_nil]
    exact List.nodup_append.mpr ⟨L.tnd, f6.nd, fun a ma b mb e => apart b mb (e ▸ ma)⟩
  · rw [List.flatten_append] at ma
    simp only [List.flatten_cons, List.flatten_nil, List.append_nil, List.mem_append] at ma
    rcases ma with ma | ma
    · exact L7.tno a ma
    · refine ⟨n7 a ma, neD a ma, ?_⟩
      rcases f6.of a ma with z | z
      · exact L.t2.on a z
      · cases cc : H1 a with
        | none => exact .inr rfl
        | some u => exact absurd z (L.t2.dm a (by rw [cc]; simp))
end
section
variable {X : Cx} {elt tg iter tg1 iter1 : Expr} {ifs ifs1 : List Expr} {fe : Fe} {ft ft1 : Ft} {fi fi1 : Fi} {g g1 : Fg} {scope : Scope} {pos spos py : PySem.Pos} {w w1 : List Nat} {own : List (Str × Nat)} {vs1 : List Nat}
end
section
variable {E E0 : Ev} {it it2 : Fi} {g g2 : Fg} {c c2 : Ft} {f : Fe} {is is2 : List Nat} {Qe : Op × Ev → Prop} {Q : List (D × Nat) × Ev → Prop} {α β : Type}
end
end Zk
namespace Zk
open PySem PySem.Spec PyProof.Rows L2
section
variable {X : Cx} {a b c d : Expr} {pos : PySem.Pos} {ta tb tc td : TE} {fa fb fc fd : Fe}
end
section
variable {E : Ev} {a b c d : Fe} {Qe : Op × Ev → Prop}
end
section
variable {prog : Program} {w : World} {A : Around} {Ex : Value → Shared → Prop} {s : Shared}
end
section
variable {X : Cx}
end
section
variable {K : PySem.W.Frag} {Z Z' : Addr → Prop} {H H' : Hp} {σ : L2.St}
end
section
variable {X : Cx} {a : Expr} {fa : Fe} {pos : PySem.Pos}
end
end Zk
namespace Zk
open PySem PySem.Spec PyProof.Rows L2
section
variable {X : Cx}
end
section
variable {κ : Type} [DecidableEq κ] {K : PySem.W.Frag} {Z Z' Zf Z0 Z1 Z2 : Addr → Prop} {H H' H0 H1 H2 : Hp} {σ σ' : L2.St} {E E' E1 EF : Ev} {R R' R0 R1 R2 Rw : Rs} {D0 : Addr}
end
section
variable {X : Cx} {kx vx tg iter : Expr} {ifs : List Expr} {fk fv : Fe} {ft : Ft} {fi : Fi} {g : Fg} {scope : Scope} {pos : PySem.Pos} {w : List Nat} {own : List (PySem.Str × Nat)}
end
section
variable {κ : Type} [DecidableEq κ] {E E0 : Ev} {it : Fi} {g : Fg} {c : Ft} {fk fv : Fe} {is : List Nat} {Qe : Op × Ev → Prop} {con : List (κ × D) → D} {ko : D → Option κ} {Q : List (κ × D) × Ev → Prop}
end
end Zk
namespace Zk
open PySem PySem.Spec PyProof.Rows L2
section
variable {prog : Program} {w : World} {A : Around} {s : Shared}
/-- the ints of a tuple on the heap -/
def IsTI (h : Heap) (v : Value) (ns : List Int) : Prop := ∃ (a : Addr) (o : Obj) (us : List Value) (n : Nat), v = .ref a ∧ h.get? a = some o ∧ o.cls = .type "tuple" ∧ o.data = .seq us.toArray n ∧ IntsAre us ns
theorem IsTI.keeps {h h' : Heap} {v : Value} {ns : List Int} (x : IsTI h v ns) (kp : ∀ b o, h.get? b = some o → o.cls = .type "tuple" → h'.get? b = some o) : IsTI h' v ns := by
  obtain ⟨a, o, us, n, e, ho, hc, hd, hi⟩ := x
  exact ⟨a, o, us, n, e, kp _ _ ho hc, hc, hd, hi⟩
end
def tof : List D → Option (List (List Int))
  | [] => some []
  | .tup es :: ds => (iof es).bind fun ns => (tof ds).map (ns :: ·)
  | _ => none
section
variable {K : PySem.W.Frag} {H : Hp}
end
section
variable {X : Cx} {a : Expr} {fe : Fe} {pos p : PySem.Pos}
end
end Zk
namespace Zk
noncomputable section
open PySem PySem.Spec PyProof.Rows L2
def S_law_drawsb : Fs := (mSeq (mSet 2 (mLc (mSq (mSl (mVar 0) (mC .non) (mInt (mC (.int 63))))) [3] (tgV 3) mYes (mMod (mOp gInt (mAc (mVar 3) mA0)) (mShl (mC (.int 1)) (mC (.int 7200)))))) (mSeq (mIfS (mB (mEq (mOp gLen (mAc (mVar 2) mA0)) (mC (.int 0)))) (mEx (mApp 2 (mC (.int 0)))) mNx) (mSeq (mSet 4 (mOp gList (mAc (mVar 2) mA0))) (mSeq (mSet 5 (mLst mA0)) (mSeq (mFor (mRg1 (mVar 1)) (tgV 6) (mSeq (mSet 7 (mMod (mOp gInt (mAc (mVar 6) mA0)) (mOp gLen (mAc (mVar 2) mA0)))) (mIfS (mAndT (mB (mGe (mIxd (mVar 2) (mVar 7)) (mPow (mC (.int 10)) (mC (.int 18))))) (mB (mGt (mIxd (mVar 4) (mVar 7)) (mC (.int 0))))) (mSeq (mEx (mApp 5 (mMod (mOp gInt (mAc (mIxd (mVar 4) (mVar 7)) mA0)) (mC (.int 1000))))) (mPut 4 (mVar 7) (mDiv (mIxd (mVar 4) (mVar 7)) (mC (.int 1000))))) (mSeq (mSet 8 (mMod (mOp gInt (mAc (mAdd (mAdd (mMul (mIxd (mVar 2) (mVar 7)) (mC (.int 48271))) (mMul (mVar 6) (mC (.int 69621)))) (mC (.int 11))) mA0)) (mC (.int 2147483647)))) (mEx (mApp 5 (mMod (mOp gInt (mAc (mAdd (mAdd (mMul (mVar 8) (mVar 8)) (mMul (mC (.int 3)) (mVar 8))) (mVar 6)) mA0)) (mC (.int 1000003))))))))) (mSeq (mEx (mRev 5)) (mRet (mVar 5))))))))
def S_law_draws : Mir := mDef none 9 S_law_drawsb
def S_law_takeb : Fs := (mSeq (mIfS (mB (mEq (mOp gLen (mAc (mVar 0) mA0)) (mC (.int 0)))) (mRet (mC (.int 0))) mNx) (mRet (mMod (mOp gInt (mAc (mPop 0) mA0)) (mVar 1))))
def S_law_take : Mir := mDef (some 0) 2 S_law_takeb
def S_law_pickb : Fs := (mRet (mIxd (mVar 1) (mCall (some 0) S_law_take (mAc (mVar 0) (mAc (mOp gLen (mAc (mVar 1) mA0)) mA0)))))
def S_law_pick : Mir := mDef (some 0) 2 S_law_pickb
def S_law_sameb (M : Mir) : Fs := (mSeq (mIfS (mTr (mOp gIsi (mAc (mVar 1) (mAc (mTup (mAc (mC (.ty "tuple")) (mAc (mC (.ty "list")) mA0))) mA0)))) (mSeq (mIfS (mOrT (mB (mNe (mOp gIsi (mAc (mVar 0) (mAc (mC (.ty "tuple")) mA0))) (mOp gIsi (mAc (mVar 1) (mAc (mC (.ty "tuple")) mA0))))) (mB (mNe (mOp gIsi (mAc (mVar 0) (mAc (mC (.ty "list")) mA0))) (mOp gIsi (mAc (mVar 1) (mAc (mC (.ty "list")) mA0)))))) (mRet (mC (.bl false))) mNx) (mSeq (mIfS (mB (mNe (mOp gLen (mAc (mVar 0) mA0)) (mOp gLen (mAc (mVar 1) mA0)))) (mRet (mC (.bl false))) mNx) (mRet (mNotIn (mC (.bl false)) (mLc (mRg1 (mOp gLen (mAc (mVar 1) mA0))) [2] (tgV 2) mYes (mCall none M (mAc (mIxd (mVar 0) (mVar 2)) (mAc (mIxd (mVar 1) (mVar 2)) mA0)))))))) mNx) (mSeq (mIfS (mOrT (mB (mNe (mOp gIsi (mAc (mVar 0) (mAc (mC (.ty "bool")) mA0))) (mOp gIsi (mAc (mVar 1) (mAc (mC (.ty "bool")) mA0))))) (mB (mNe (mOp gIsi (mAc (mVar 0) (mAc (mC (.ty "int")) mA0))) (mOp gIsi (mAc (mVar 1) (mAc (mC (.ty "int")) mA0)))))) (mRet (mC (.bl false))) mNx) (mSeq (mIfS (mOrT (mB (mNe (mOp gIsi (mAc (mVar 0) (mAc (mC (.ty "str")) mA0))) (mOp gIsi (mAc (mVar 1) (mAc (mC (.ty "str")) mA0))))) (mB (mNe (mIsN (mVar 0)) (mIsN (mVar 1))))) (mRet (mC (.bl false))) mNx) (mRet (mEq (mVar 0) (mVar 1))))))
def S_law_same : Nat → Mir
  | 0 => fun _ => none
  | n + 1 => mDef none 3 (S_law_sameb (S_law_same n))
end
end Zk
namespace Zk
noncomputable section
open PySem PySem.Spec PyProof.Rows L2
/-- a list of draws -/
def dr (s : List Int) : D := .lst (s.map D.int)
@[simp] theorem imm_dr (s : List Int) : imm (dr s) = false := by simp [dr]
@[simp] theorem flat_dr (s : List Int) : flat (dr s) = true := by simp [dr]
/-- what is drawn -/
def dv (s : List Int) (n : Int) : Int := s.getLastD 0 % n
theorem dv_nn {s : List Int} {n : Int} (h : 0 < n) : 0 ≤ dv s n := Int.emod_nonneg _ (by omega)
theorem dv_lt {s : List Int} {n : Int} (h : 0 < n) : dv s n < n := Int.emod_lt_of_pos _ h
theorem take_eq (s : List Int) (n : Int) (h : 0 < n) : S_law_take [dr s, .int n] = some (.int (dv s n), 9, dr s.dropLast) := by
  have go : W (S_law_take [dr s, .int n]) fun r => r = (.int (dv s n), 9, dr s.dropLast) := by
    rcases List.eq_nil_or_concat s with e | ⟨xs, x, e⟩
    · subst e
      simp [S_law_take, S_law_takeb, ent0_def, dr, dv]
    · subst e
      simp [S_law_take, S_law_takeb, ent0_def, dr, dv, h]
      omega
  obtain ⟨r, e, rfl⟩ := go
  exact e
@[simp ↓, simp] theorem W_take {s : List Int} {n : Int} {Q : D × Nat × D → Prop} (h : 0 < n) : W (S_law_take [dr s, .int n]) Q ↔ Q (.int (dv s n), 9, dr s.dropLast) := W.eq (take_eq s n h)
/-- a thing picked -/
def pk {α : Type} (s : List Int) (xs : List α) (h : xs ≠ []) : α := xs[(dv s xs.length).toNat]'(by
  have h1 : 0 < xs.length := List.length_pos_iff.mpr h
  have := dv_lt (s := s) (n := xs.length) (by omega)
  have := dv_nn (s := s) (n := xs.length) (by omega)
  omega)
theorem pk_mem {α : Type} {s : List Int} {xs : List α} {h : xs ≠ []} : pk s xs h ∈ xs := List.getElem_mem _
theorem pk_at {α : Type} {s : List Int} {xs : List α} {h : xs ≠ []} : atI xs (dv s xs.length) = some (pk s xs h) := by
  have h1 : 0 < xs.length := List.length_pos_iff.mpr h
  have a := dv_lt (s := s) (n := xs.length) (by omega)
  have b := dv_nn (s := s) (n := xs.length) (by omega)
  unfold atI
  rw [ixN_ok b a]
  unfold pk
  rw [Option.bind_some, List.getElem?_eq_getElem]
theorem pick_eq {d : D} {xs : List D} (hd : d = .lst xs ∨ d = .tup xs) (s : List Int) (h : xs ≠ []) (i : imm (pk s xs h) = true) : S_law_pick [dr s, d] = some (pk s xs h, 9, dr s.dropLast) := by
  have h1 : 0 < (xs.length : Int) := by have := List.length_pos_iff.mpr h; omega
  have go : W (S_law_pick [dr s, d]) fun r => r = (pk s xs h, 9, dr s.dropLast) := by
    rcases hd with rfl | rfl
    · simp (disch := first | assumption | (simp; done) | omega) [S_law_pick, S_law_pickb, ent0_def, gIxd, gIx, dem1, pk_at (h := h), i]
    · simp (disch := first | assumption | (simp; done) | omega) [S_law_pick, S_law_pickb, ent0_def, gIxd, gIx, dem1, pk_at (h := h), i]
  obtain ⟨r, e, rfl⟩ := go
  exact e
theorem pk_map {α β : Type} {s : List Int} {xs : List α} {f : α → β} {h : xs ≠ []} {h' : xs.map f ≠ []} : pk s (xs.map f) h' = f (pk s xs h) := by
  unfold pk
  simp
@[simp ↓, simp] theorem W_pickL {s : List Int} {xs : List D} {Q : D × Nat × D → Prop} (h : xs ≠ []) (hi : imms xs = true) : W (S_law_pick [dr s, .lst xs]) Q ↔ Q (pk s xs h, 9, dr s.dropLast) := W.eq (pick_eq (.inl rfl) s h (by
  rw [imms_all, List.all_eq_true] at hi
  exact hi _ pk_mem))
@[simp ↓, simp] theorem W_pickT {s : List Int} {xs : List D} {Q : D × Nat × D → Prop} (h : xs ≠ []) (hi : imms xs = true) : W (S_law_pick [dr s, .tup xs]) Q ↔ Q (pk s xs h, 9, dr s.dropLast) := W.eq (pick_eq (.inr rfl) s h (by
  rw [imms_all, List.all_eq_true] at hi
  exact hi _ pk_mem))
theorem draws_spec (ns : List Int) (many : Int) (h0 : 0 ≤ many) (h : many ≤ 1000000) : W (S_law_draws [.scr ns, .int many]) fun r => ∃ s, r = (dr s, 9, .non) := by
  have hB : (1 : Int).natAbs < big := big0 (by decide)
  have h2 : cutD (ns.map D.int) none (some 63) = (ns.map D.int).take 63 := cut_to _ 63
  have h7 : (1 : Int) * 2 ^ (7200 : Int).toNat = B72 := by rw [Int.one_mul]; rfl
  have p7 := B72_pos
  unfold S_law_draws S_law_drawsb
  rw [W_mDef]
  -- cells
  refine W_seqJ (J := fun E => ∃ cs : List Int, (∀ c ∈ cs, 0 ≤ c ∧ c < B72) ∧ cs.length ≤ 63 ∧ E = [some (.scr ns, 0), some (.int many, 0), some (.lst (cs.map D.int), 9), none, none, none, none, none, none]) ?_ ?_
  · simp [ent0_def, W_lc0, h2, ← List.map_take]
    refine W_lcX (p := fun _ => true) (ρ := fun x => .int (x % B72)) (fun x => by simp) (by simp [sizeL]; omega) (fun x hx => ?_) fun acc ha hu => ?_
    · have e7 : (2 : Int) ^ 7200 = B72 := rfl
      simp [e7, p7]
    · simp [ha, hu]
      refine ⟨(ns.take 63).map (· % B72), ?_, ?_, ?_⟩
      · intro c hc
        obtain ⟨x, hx, rfl⟩ := List.mem_map.mp hc
        exact ⟨Int.emod_nonneg _ (by omega), Int.emod_lt_of_pos _ p7⟩
      · simp; omega
      · simp [List.filter_eq_self.mpr, Function.comp_def]
  rintro _ ⟨cs, hcs, hl, rfl⟩
  refine W_seqJ (J := fun E => ∃ cs : List Int, cs ≠ [] ∧ (∀ c ∈ cs, 0 ≤ c ∧ c < B72) ∧ cs.length ≤ 63 ∧ E = [some (.scr ns, 0), some (.int many, 0), some (.lst (cs.map D.int), 9), none, none, none, none, none, none]) ?_ ?_
  · simp
    refine ⟨fun e => ⟨by simp [e, sizeL], [0], by simp, by simp [p7], by simp, ?_⟩, fun e => ⟨cs, e, hcs, hl, rfl⟩⟩
    simp [e, upl]
  rintro _ ⟨cs, hne, hcs, hl, rfl⟩
  have hlen : 0 < cs.length := List.length_pos_iff.mpr hne
  simp
  refine ⟨⟨by omega, by omega⟩, ?_⟩
  refine W_forR (I := fun k E => ∃ (ls ds : List Int) (u v w : Option (D × Nat)), (∀ c ∈ ls, 0 ≤ c ∧ c < B72) ∧ ls.length = cs.length ∧ ds.length ≤ k ∧ E = [some (.scr ns, 0), some (.int many, 0), some (.lst (cs.map D.int), 9), none, some (.lst (ls.map D.int), 9), some (.lst (ds.map D.int), 9), u, v, w])
    ⟨cs, [], none, none, none, hcs, rfl, by simp, by simp⟩ (fun k E hk hE => ?_) fun E hE => ?_
  · obtain ⟨ls, ds, u, v, w, hls, hll, hds, rfl⟩ := hE
    have hp0 : 0 ≤ (k : Int) % cs.length := Int.emod_nonneg _ (by omega)
    have hp1 : (k : Int) % cs.length < cs.length := Int.emod_lt_of_pos _ (by omega)
    obtain ⟨c, hc, cm, _, _⟩ := atI_ok hp0 hp1
    obtain ⟨l, hl1, lm, _, lN⟩ := atI_ok (xs := ls) hp0 (by omega)
    have c1 := hcs c cm
    have l1 := hls l lm
    have b1 : c.natAbs < big := B72_big c1.1 (by omega)
    have b2 : (48271 : Int).natAbs < big := big0 (by decide)
    have b3 : (k : Int).natAbs < big := big0 (by omega)
    have b4 : (69621 : Int).natAbs < big := big0 (by decide)
    have sz : ds.length < sizeLine := by rw [sizeL]; omega
    have m1 : ((c * 48271 + (k : Int) * 69621 + 11) % 2147483647).natAbs < big := by
      have := Int.emod_nonneg (c * 48271 + (k : Int) * 69621 + 11) (show (2147483647 : Int) ≠ 0 by decide)
      have := Int.emod_lt_of_pos (c * 48271 + (k : Int) * 69621 + 11) (show (0 : Int) < 2147483647 by decide)
      exact big0 (by omega)
    have b3 : k < big := nb (by omega)
    simp [hlen, hc, hl1, lN, b1, b3, sz, m1]
    refine ⟨fun _ => ⟨fun _ => ⟨ls.set ((k : Int) % cs.length).toNat (l / 1000), ?_, by simpa using hll, ds ++ [l % 1000], by simp; omega, by simp [List.map_set], by simp⟩, fun _ => ⟨ls, hls, hll, ds ++ [_], by simp; omega, rfl, by simp; rfl⟩⟩, fun _ => ⟨ls, hls, hll, ds ++ [_], by simp; omega, rfl, by simp; rfl⟩⟩
    intro x hx
    rcases List.mem_or_eq_of_mem_set hx with hx | rfl
    · exact hls x hx
    · omega
  · obtain ⟨ls, ds, u, v, w, hls, hll, hds, rfl⟩ := hE
    simp
    exact ⟨ds.reverse, by simp [dr]⟩
end
end Zk
namespace Zk
noncomputable section
open PySem PySem.Spec PyProof.Rows L2
/-- what _law_same takes, by its depth -/
def pl : Nat → D → Bool
  | _, .non => true
  | _, .bl _ => true
  | _, .int _ => true
  | _, .str x => PyData.strOk x
  | n + 1, .tup xs => xs.all (pl n) && decide (xs.length < 16777216)
  | n + 1, .lst xs => xs.all (pl n) && decide (xs.length < 16777216)
  | _, _ => false
theorem same_scalar (n : Nat) (a : D) (h : a = .non ∨ (∃ b, a = .bl b) ∨ (∃ i, a = .int i) ∨ ∃ x, a = .str x ∧ PyData.strOk x = true) : W (S_law_same (n + 1) [a, a]) fun r => r = (.bl true, 9, .non) := by
  unfold S_law_same S_law_sameb
  rcases h with rfl | ⟨b, rfl⟩ | ⟨i, rfl⟩ | ⟨x, rfl, hx⟩
  · simp [ent0_def, gIsi, tyOf, isi, gNe, dat, gIsN, isNon, gEq, sizeL]
  · simp [ent0_def, gIsi, tyOf, isi, gNe, dat, gIsN, isNon, gEq, sizeL]
  · simp [ent0_def, gIsi, tyOf, isi, gNe, dat, gIsN, isNon, gEq, sizeL]
  · simp [ent0_def, gIsi, tyOf, isi, gNe, dat, gIsN, isNon, gEq, sizeL, hx, deq, py, PyData.eqv]

theorem same_seq (n : Nat) (a : D) (xs : List D) (ha : a = .tup xs ∨ a = .lst xs) (hl : xs.length < 16777216) (ih : ∀ x ∈ xs, S_law_same n [x, x] = some (.bl true, 9, .non)) : W (S_law_same (n + 1) [a, a]) fun r => r = (.bl true, 9, .non) := by
  unfold S_law_same S_law_sameb
  have dt : ∀ m : Nat, (dat 64 (.lst ((List.replicate m ()).map fun _ => D.bl true))) = true := fun m => by simp [dat]
  have step : ∀ (E0 : Ev) (k : Nat) (b : D), (b = .tup xs ∨ b = .lst xs) → k < xs.length → E0 = [some (b, 0), some (b, 0), none] → W (tgV 2 (.int (0 + (k : Int))) E0) fun E1 => W (mYes E1) fun q =>
      IfB q.1 (True ∧ W (mCall none (S_law_same n) (mAc (mIxd (mVar 0) (mVar 2)) (mAc (mIxd (mVar 1) (mVar 2)) mA0)) q.2) fun r => W (tk r.2 r.1) fun t => t.1 = .bl true ∧ wipeE t.2.2 [2] = E0) (False ∧ wipeE q.2 [2] = E0) := by
    intro E0 k b hb hk e
    subst e
    obtain ⟨x, hx, xm, _, _⟩ := atI_ok (xs := xs) (i := (k : Int)) (by omega) (by omega)
    have e1 := ih x xm
    have w1 : ∀ {Q : D × Nat × D → Prop}, W (S_law_same n [x, x]) Q ↔ Q (.bl true, 9, .non) := fun {Q} => W.eq e1
    rcases hb with rfl | rfl
    · by_cases c1 : imm x = true
      · simp [hx, c1, w1]
      · simp at c1
        simp [hx, c1, w1]
    · by_cases c1 : imm x = true
      · simp [hx, c1, w1]
      · simp at c1
        simp [hx, c1, w1]
  have fin : ∀ (b : D) (Q : List (D × Nat) × Ev → Prop), (b = .tup xs ∨ b = .lst xs) → (∀ acc : List (D × Nat), acc.map (·.1) = List.replicate xs.length (.bl true) → uni acc = 9 → Q (acc, [some (b, 0), some (b, 0), none])) →
      W (lcM (tgV 2) mYes (mCall none (S_law_same n) (mAc (mIxd (mVar 0) (mVar 2)) (mAc (mIxd (mVar 1) (mVar 2)) mA0))) [2] (rng 0 xs.length) [some (b, 0), some (b, 0), none] []) Q := by
    intro b Q hb k
    have e : rng 0 xs.length = (List.range xs.length).map fun k => D.int (0 + (k : Nat)) := rfl
    rw [e]
    refine W_lcX (p := fun _ => true) (ρ := fun _ => .bl true) (fun x => by simp) (by simp [sizeL]; omega) (fun x hx => ?_) fun acc h1 h2 => k acc ?_ h2
    · have := step _ x b hb (by simpa using hx) rfl
      refine this.mono fun E1 h => h.mono fun q h => ?_
      cases hq : q.1
      · rw [hq] at h; rw [IfB_f] at h ⊢; exact h.1.elim
      · rw [hq] at h; rw [IfB_t] at h ⊢; exact ⟨rfl, h.2⟩
    · rw [h1, List.filter_eq_self.mpr (by simp)]
      simp [List.eq_replicate_iff]
  have rk : rgOk (xs.length : Int) := ⟨by omega, by omega⟩
  rcases ha with rfl | rfl
  · simp [ent0_def, gIsi, tyOf, isi, gNe, dat, W_lc0, rk]
    refine fin _ _ (.inl rfl) fun acc h1 h2 => ?_
    simp [h1, h2, gInA, gIn, dat]
  · simp [ent0_def, gIsi, tyOf, isi, gNe, dat, W_lc0, rk]
    refine fin _ _ (.inr rfl) fun acc h1 h2 => ?_
    simp [h1, h2, gInA, gIn, dat]
theorem same_eq : ∀ (n : Nat) (a : D), pl n a = true → S_law_same (n + 1) [a, a] = some (.bl true, 9, .non) := by
  have sc : ∀ (n : Nat) (a : D), (a = .non ∨ (∃ b, a = .bl b) ∨ (∃ i, a = .int i) ∨ ∃ x, a = .str x ∧ PyData.strOk x = true) → S_law_same (n + 1) [a, a] = some (.bl true, 9, .non) := fun n a h => by
    obtain ⟨r, e, rfl⟩ := same_scalar n a h
    exact e
  intro n
  induction n with
  | zero =>
    intro a h
    cases a with
    | non => exact sc 0 _ (.inl rfl)
    | bl b => exact sc 0 _ (.inr (.inl ⟨b, rfl⟩))
    | int b => exact sc 0 _ (.inr (.inr (.inl ⟨b, rfl⟩)))
    | str b => exact sc 0 _ (.inr (.inr (.inr ⟨b, rfl, by simpa [pl] using h⟩)))
    | _ => simp [pl] at h
  | succ n ih =>
    intro a h
    cases a with
    | non => exact sc _ _ (.inl rfl)
    | bl b => exact sc _ _ (.inr (.inl ⟨b, rfl⟩))
    | int b => exact sc _ _ (.inr (.inr (.inl ⟨b, rfl⟩)))
    | str b => exact sc _ _ (.inr (.inr (.inr ⟨b, rfl, by simpa [pl] using h⟩)))
    | tup xs =>
      simp only [pl, Bool.and_eq_true, decide_eq_true_eq, List.all_eq_true] at h
      obtain ⟨r, e, rfl⟩ := same_seq (n + 1) _ xs (.inl rfl) h.2 fun x hx => ih x (h.1 x hx)
      exact e
    | lst xs =>
      simp only [pl, Bool.and_eq_true, decide_eq_true_eq, List.all_eq_true] at h
      obtain ⟨r, e, rfl⟩ := same_seq (n + 1) _ xs (.inr rfl) h.2 fun x hx => ih x (h.1 x hx)
      exact e
    | _ => simp [pl] at h
theorem W_same {a : D} {Q : D × Nat × D → Prop} (h : pl 7 a = true) : W (S_law_same 8 [a, a]) Q ↔ Q (.bl true, 9, .non) := W.eq (same_eq 7 a h)
end
end Zk
namespace Zk
noncomputable section
open PySem PySem.Spec PyProof.Rows L2
theorem imms_map' {α : Type} {f : α → D} (h : ∀ x, imm (f x) = true) (xs : List α) : imms (xs.map f) = true := imms_map f h xs
theorem any_int (fs : List Int) (x : Int) : ((fs.map D.int).any fun z => deq z (.int x)) = decide (x ∈ fs) := by
  induction fs with
  | nil => simp
  | cons a fs ih =>
    simp only [List.map_cons, List.any_cons, ih, deq_int, List.mem_cons]
    by_cases h : a = x
    · simp [h]
    · simp [h, Ne.symm h, eq_comm]
theorem all_dat_int (fs : List Int) (n : Nat) : (fs.map D.int).all (dat n) = true := by
  rw [List.all_map, List.all_eq_true]
  intro x _
  cases n <;> simp [dat]
@[simp] theorem dat_int (n : Nat) (i : Int) : dat n (.int i) = true := by cases n <;> simp [dat]
@[simp] theorem gInA_ints (neg : Bool) (x : Int) (fs : List Int) : gInA neg [.int x, .lst (fs.map D.int)] = some (.bl (decide (x ∈ fs) ^^ neg), 9) := by
  unfold gInA
  simp only [gIn]
  rw [if_pos ⟨dat_int _ _, by simp only [dat]; exact all_dat_int fs 63⟩, any_int]
@[simp] theorem gSrt1_ints (ns : List Int) : gSrt1 [.lst (ns.map D.int)] = some (.lst ((srt ns).map D.int), 9) := by simp [gSrt1, gSrtIP, gSrtI]
theorem srt_mem {ns : List Int} {x : Int} : x ∈ srt ns ↔ x ∈ ns := (srt_perm ns).mem_iff
theorem srt_nodup {ns : List Int} : (srt ns).Nodup ↔ ns.Nodup := (srt_perm ns).nodup_iff
/-- the greatest count that is drawn -/
def cMax : Int := 10 ^ 40 + 121
/-- a pair of ints -/
def pr (p : Int × Int) : D := .tup [.int p.1, .int p.2]
@[simp] theorem imm_pr (p : Int × Int) : imm (pr p) = true := by simp [pr]
@[simp] theorem imms_prs (ps : List (Int × Int)) : imms (ps.map pr) = true := imms_map' imm_pr ps
@[simp] theorem upl_pr {n m : Nat} {d : D} {p : Int × Int} : upl n d (pr p) m = n := upl_imm (imm_pr p)
end
end Zk
namespace Zk
noncomputable section
open PySem PySem.Spec PyProof.Rows L2
def getI (m : List (Int × Int)) (k : Int) : Option Int := (m.find? fun p => decide (p.1 = k)).map (·.2)
theorem get_none {m : List (Int × Int)} {k : Int} : getI m k = none ↔ k ∉ m.map (·.1) := by
  unfold getI
  rw [Option.map_eq_none_iff, List.find?_eq_none]
  constructor
  · intro h hm
    obtain ⟨p, hp, e⟩ := List.mem_map.mp hm
    exact h p hp (by simpa using e)
  · intro h p hp e
    exact h (List.mem_map.mpr ⟨p, hp, by simpa using e⟩)
theorem get_some {m : List (Int × Int)} {k : Int} (h : k ∈ m.map (·.1)) : ∃ v, getI m k = some v := by
  cases e : getI m k with
  | none => exact absurd h (get_none.mp e)
  | some v => exact ⟨v, rfl⟩
/-- the sum of the counts of a key -/
def ksum (st : List (Int × Int)) (k : Int) : Int := ((st.filter fun p => decide (p.1 = k)).map (·.2)).sum
@[simp] theorem ksum_nil (k : Int) : ksum [] k = 0 := rfl
theorem ksum_app (a b : List (Int × Int)) (k : Int) : ksum (a ++ b) k = ksum a k + ksum b k := by simp [ksum]
theorem ksum_one (p : Int × Int) (k : Int) : ksum [p] k = if p.1 = k then p.2 else 0 := by
  unfold ksum
  by_cases h : p.1 = k <;> simp [h]
/-- the counts of a stream, ascending, without 0 -/
def cof (st : List (Int × Int)) : List (Int × Int) := ((srt (st.map (·.1)).eraseDups).filter fun k => decide (ksum st k ≠ 0)).map fun k => (k, ksum st k)
def keysI (m : List (Int × Int)) : List Int := m.map (·.1)
theorem nodup_eraseDups (l : List Int) : l.eraseDups.Nodup := by
  generalize hn : l.length = n
  induction n using Nat.strongRecOn generalizing l with
  | ind n ih =>
    cases l with
    | nil => simp
    | cons a l =>
      rw [List.eraseDups_cons, List.nodup_cons]
      have hl : (l.filter fun b => !b == a).length < n := by
        have := List.length_filter_le (fun b => !b == a) l
        simp at hn
        omega
      refine ⟨fun h => ?_, ih _ hl _ rfl⟩
      rw [List.mem_eraseDups] at h
      simp at h
theorem srt_perm_eq {a b : List Int} (h : a.Perm b) : srt a = srt b := srt_uniq ((srt_perm a).trans (h.trans (srt_perm b).symm)) (srt_pair a) (srt_pair b)
end
end Zk
namespace Zk
open PySem PySem.Spec PyProof.Rows L2
section
variable {κ : Type} [DecidableEq κ]
@[simp] theorem valD_nil (k : κ) : valD ([] : List (κ × D)) k = none := rfl
end
@[simp] theorem keyOf_int (i : Int) : keyOf (.int i) = some (.inl i) := rfl
@[simp] theorem look_dK (kds : List (Key × D)) (k : Int) : look (.dK kds) (.int k) = some (valD kds (.inl k)) := rfl
@[simp] theorem look_dT (kds : List (List Key × D)) (ks : List D) : look (.dT kds) (.tup ks) = (keysOf ks).map fun k => valD kds k := rfl
@[simp] theorem keysOf_nil : keysOf [] = some [] := rfl
@[simp] theorem keysOf_c (i : Int) (ds : List D) : keysOf (.int i :: ds) = (keysOf ds).map fun ks => .inl i :: ks := rfl
@[simp] theorem gInA_dK (neg : Bool) (x : D) (kds : List (Key × D)) : gInA neg [x, .dK kds] = (look (.dK kds) x).map fun o => (.bl (o.isSome ^^ neg), 9) := rfl
@[simp] theorem gInA_dT (neg : Bool) (x : D) (kds : List (List Key × D)) : gInA neg [x, .dT kds] = (look (.dT kds) x).map fun o => (.bl (o.isSome ^^ neg), 9) := rfl
theorem W_seqE {s t : Fs} {E E1 : Ev} {Q : Fl × Ev → Prop} (h : W (s E) fun p => p.1 = .nx ∧ p.2 = E1) (k : W (t E1) Q) : W (mSeq s t E) Q := W_seqJ (fun E => E = E1) h fun _ e => e ▸ k
end Zk
namespace Zk
open PySem PySem.Spec PyProof.Rows L2
section
variable {K : PySem.W.Frag} {Z Z' Zf Z0 Z1 : Addr → Prop} {H H' H0 H1 : Hp} {σ : L2.St} {E E' E1 : Ev} {R R' R0 R1 : Rs}
end
section
variable {X : Cx} {e e1 e2 : Expr} {fi fk fe : Fe} {pos px pt pt2 : PySem.Pos} {op : Operator} {f : Int → Int → Int} {w : List Nat}
end
section
variable {E : Ev} {fi fk fe : Fe} {x : Nat} {f : Int → Int → Int} {Qs : Fl × Ev → Prop} {Qe : Op × Ev → Prop}
end
end Zk
namespace Zk
open PySem PySem.Spec PyProof.Rows L2
section
variable {K : PySem.W.Frag} {Z Z' Zf Z0 Z1 : Addr → Prop} {H H' H0 H1 : Hp} {σ σ1 : L2.St} {E E' E1 : Ev} {R R' R0 R1 : Rs}
end
section
variable {X : Cx} {e : Expr} {fi : Fe} {pos pos' px pt : PySem.Pos} {rest : List Stmt} {w : List Nat} {body : Fs}
end
section
variable {E : Ev} {fi : Fe} {x c i j : Nat} {body : Fs} {Qs : Fl × Ev → Prop}
end
end Zk
namespace Zk
noncomputable section
open PySem PySem.Spec PyProof.Rows L2
end
end Zk
namespace Zk
noncomputable section
open PySem PySem.Spec PyProof.Rows L2
/-- a row as a tuple -/
def tI (xs : List Int) : D := .tup (xs.map D.int)
@[simp] theorem imm_tI (xs : List Int) : imm (tI xs) = true := by simp [tI]
@[simp] theorem imms_tIs (xs : List (List Int)) : imms (xs.map tI) = true := imms_map' imm_tI xs
@[simp] theorem upl_tI {n m : Nat} {d : D} {p : List Int} : upl n d (tI p) m = n := upl_imm (imm_tI p)
@[simp] theorem gMul_rep (a : List D) (k : Int) : gMul [.lst a, .int k] = if -(2 ^ 63) ≤ k ∧ k < 2 ^ 63 ∧ a.length * k.toNat ≤ sizeLine then some (.lst (List.replicate k.toNat a).flatten, lev (List.replicate k.toNat a).flatten) else none := by simp [gMul]
theorem ksum_out {st : List (Int × Int)} {k : Int} (h : ∀ p ∈ st, p.1 ≠ k) : ksum st k = 0 := by
  unfold ksum
  rw [List.filter_eq_nil_iff.mpr (by simpa using h)]
  rfl
theorem cof_mem {st : List (Int × Int)} {p : Int × Int} : p ∈ cof st ↔ p.2 = ksum st p.1 ∧ p.2 ≠ 0 := by
  unfold cof
  constructor
  · intro h
    obtain ⟨k, hk, rfl⟩ := List.mem_map.mp h
    simp only [List.mem_filter, decide_eq_true_eq] at hk
    exact ⟨rfl, hk.2⟩
  · rintro ⟨h1, h2⟩
    refine List.mem_map.mpr ⟨p.1, ?_, by rw [← h1]⟩
    rw [List.mem_filter, srt_mem, List.mem_eraseDups]
    refine ⟨?_, by rw [← h1]; simpa using h2⟩
    by_cases h : p.1 ∈ st.map (·.1)
    · exact h
    · exfalso
      apply h2
      rw [h1]
      exact ksum_out fun q hq e => h (List.mem_map.mpr ⟨q, hq, e⟩)
theorem cof_keys {st : List (Int × Int)} {p : Int × Int} (h : p ∈ cof st) : ∃ q ∈ st, q.1 = p.1 := by
  obtain ⟨h1, h2⟩ := cof_mem.mp h
  apply Classical.byContradiction
  intro hn
  apply h2
  rw [h1]
  exact ksum_out fun q hq e => hn ⟨q, hq, e⟩
theorem cof_nodup (st : List (Int × Int)) : ((cof st).map (·.1)).Nodup := by
  have e : (cof st).map (·.1) = (srt (st.map (·.1)).eraseDups).filter fun k => decide (ksum st k ≠ 0) := by
    unfold cof
    rw [List.map_map]
    exact List.map_id _
  rw [e]
  exact (srt_nodup.mpr (nodup_eraseDups _)).filter _
end
end Zk
namespace Zk
noncomputable section
open PySem PySem.Spec PyProof.Rows L2
end
end Zk
namespace Zk
noncomputable section
open PySem PySem.Spec PyProof.Rows L2
theorem cut_upto {xs : List D} {i : Int} (h : 0 ≤ i) : cutD xs none (some i) = xs.take i.toNat := by
  have := cut_to xs i.toNat
  rwa [Int.toNat_of_nonneg h] at this
theorem cut_on {xs : List D} {i : Int} (h : 0 ≤ i) : cutD xs (some i) none = xs.drop i.toNat := by
  have := cut_from xs i.toNat
  rwa [Int.toNat_of_nonneg h] at this
@[simp] theorem gAdd_lst (a b : List D) : gAdd [.lst a, .lst b] = if a.length + b.length ≤ sizeLine then some (.lst (a ++ b), lev (a ++ b)) else none := by simp [gAdd]
@[simp] theorem gAdd_tup (a b : List D) : gAdd [.tup a, .tup b] = if a.length + b.length ≤ sizeLine then some (.tup (a ++ b), 0) else none := by simp [gAdd]
end
end Zk
namespace Zk
open PySem PySem.Spec PyProof.Rows L2
theorem gInA_tup (neg : Bool) (x : Int) (fs : List Int) (h : fs.length ≤ sizeLine) : gInA neg [.int x, .tup (fs.map D.int)] = some (.bl (decide (x ∈ fs) ^^ neg), 9) := by
  unfold gInA
  simp only [gIn]
  rw [if_pos ⟨dat_int _ _, by simp only [dat, List.length_map, Bool.and_eq_true, decide_eq_true_eq]; first | exact all_dat_int fs 63 | exact ⟨all_dat_int fs 63, h⟩ | exact ⟨h, all_dat_int fs 63⟩⟩, any_int]
end Zk
namespace Zk
noncomputable section
open PySem PySem.Spec PyProof.Rows L2
end
end Zk
namespace Zk
noncomputable section
open PySem PySem.Spec PyProof.Rows L2
/-- a field: of p members, or of 2 ** m -/
inductive Fd where
  | prm (q : Nat) | bin (m : Nat)
namespace Fd
def d : Fd → D
  | .prm q => .int q
  | .bin m => .tup [.int 2, .int m]
def n : Fd → Nat
  | .prm q => q
  | .bin m => 2 ^ m
def ok : Fd → Prop
  | .prm q => 1 ≤ q ∧ q ≤ 1000000
  | .bin m => 1 ≤ m ∧ m ≤ 4
end Fd
def poly (m : Nat) : Nat := [0, 3, 7, 11, 19].getD m 0
def pmS (m b : Nat) (s : Nat × Nat) (bit : Nat) : Nat × Nat :=
  (if b / 2 ^ bit % 2 = 1 then s.1 ^^^ s.2 else s.1, if s.2 * 2 / 2 ^ m = 0 then s.2 * 2 else s.2 * 2 ^^^ poly m)
/-- the product of polynomials, as the program finds it -/
def pm (m a b : Nat) : Nat := ((List.range m).foldl (pmS m b) (0, a)).1
def lm1 (a b : Nat) (s bit : Nat) : Nat := if b / 2 ^ bit % 2 = 1 then s ^^^ (a * 2 ^ bit) else s
def lm2 (m : Nat) (s k : Nat) : Nat := if s / 2 ^ (2 * m - 1 - k) % 2 = 1 then s ^^^ (poly m * 2 ^ (2 * m - 1 - k - m)) else s
/-- as the law finds it -/
def lm (m a b : Nat) : Nat := (List.range m).foldl (lm2 m) ((List.range m).foldl (lm1 a b) 0)
namespace Fd
def add : Fd → Nat → Nat → Nat
  | .prm q, a, b => (a + b) % q
  | .bin _, a, b => a ^^^ b
def mul : Fd → Nat → Nat → Nat
  | .prm q, a, b => a * b % q
  | .bin m, a, b => pm m a b
def neg : Fd → Nat → Nat
  | .prm q, a => (q - a) % q
  | .bin _, a => a
theorem zero_add : ∀ {F : Fd} {a : Nat}, a < F.n → F.add 0 a = a
  | .prm q, a, h => by simp only [add, Nat.zero_add]; exact Nat.mod_eq_of_lt h
  | .bin m, a, h => Nat.zero_xor a
theorem mul_comm : ∀ {F : Fd} {a b : Nat}, F.ok → a < F.n → b < F.n → F.mul a b = F.mul b a
  | .prm q, a, b, _, _, _ => by simp only [mul, Nat.mul_comm]
  | .bin m, a, b, h, ha, hb => by
    have : ∀ m < 5, ∀ a < 2 ^ m, ∀ b < 2 ^ m, 1 ≤ m → pm m a b = pm m b a := by decide +kernel
    exact this m (by have := h.2; omega) a ha b hb h.1
theorem mul_assoc : ∀ {F : Fd} {a b c : Nat}, F.ok → a < F.n → b < F.n → c < F.n → F.mul (F.mul a b) c = F.mul a (F.mul b c)
  | .prm q, a, b, c, _, _, _, _ => by unfold mul; simp [Nat.mul_assoc]
  | .bin m, a, b, c, h, ha, hb, hc => by
    have : ∀ m < 5, ∀ a < 2 ^ m, ∀ b < 2 ^ m, ∀ c < 2 ^ m, 1 ≤ m → pm m (pm m a b) c = pm m a (pm m b c) := by decide +kernel
    exact this m (by have := h.2; omega) a ha b hb c hc h.1
theorem mul_add : ∀ {F : Fd} {a b c : Nat}, F.ok → a < F.n → b < F.n → c < F.n → F.mul a (F.add b c) = F.add (F.mul a b) (F.mul a c)
  | .prm q, a, b, c, _, _, _, _ => by unfold mul add; simp [Nat.mul_add]
  | .bin m, a, b, c, h, ha, hb, hc => by
    have : ∀ m < 5, ∀ a < 2 ^ m, ∀ b < 2 ^ m, ∀ c < 2 ^ m, 1 ≤ m → pm m a (b ^^^ c) = pm m a b ^^^ pm m a c := by decide +kernel
    exact this m (by have := h.2; omega) a ha b hb c hc h.1
theorem one_mul : ∀ {F : Fd} {a : Nat}, F.ok → a < F.n → F.mul 1 a = a
  | .prm q, a, h, ha => by simp only [mul, Nat.one_mul]; exact Nat.mod_eq_of_lt ha
  | .bin m, a, h, ha => by
    have : ∀ m < 5, ∀ a < 2 ^ m, 1 ≤ m → pm m 1 a = a := by decide +kernel
    exact this m (by have := h.2; omega) a ha h.1
theorem zero_mul : ∀ {F : Fd} {a : Nat}, F.ok → a < F.n → F.mul 0 a = 0
  | .prm q, a, h, ha => by simp only [mul, Nat.zero_mul, Nat.zero_mod]
  | .bin m, a, h, ha => by
    have : ∀ m < 5, ∀ a < 2 ^ m, 1 ≤ m → pm m 0 a = 0 := by decide +kernel
    exact this m (by have := h.2; omega) a ha h.1
/-- a key as a member -/
def mem : Fd → Nat → Nat
  | .prm q, k => k % q
  | .bin _, k => k
/-- the value at x, from the greatest power down -/
def hor (F : Fd) (x : Nat) (cs : List Nat) : Nat := cs.foldr (fun c r => F.add (F.mul r x) c) 0
/-- the value of a draw at a key -/
def val (F : Fd) (cs : List Nat) (k : Nat) : Nat := hor F (F.mem k) cs
end Fd
end
end Zk
namespace Zk
noncomputable section
open PySem PySem.Spec PyProof.Rows L2
end
end Zk
namespace Zk
noncomputable section
open PySem PySem.Spec PyProof.Rows L2
end
end Zk
namespace Zk
noncomputable section
open PySem PySem.Spec PyProof.Rows L2
/-- 1 for an even number of ones, else -1 -/
def par (n : Nat) : Int := if h : n = 0 then 1 else (if n % 2 = 1 then -1 else 1) * par (n / 2)
def sgn (i k : Nat) : Int := par (i &&& k)
def sumN : Nat → (Nat → Int) → Int
  | 0, _ => 0
  | n + 1, f => sumN n f + f n
theorem sumN_add {n : Nat} {f g : Nat → Int} : sumN n (fun i => f i + g i) = sumN n f + sumN n g := by
  induction n with
  | zero => rfl
  | succ n ih => simp only [sumN, ih]; omega
theorem sumN_zero {n : Nat} {f : Nat → Int} (h : ∀ i, i < n → f i = 0) : sumN n f = 0 := by
  induction n with
  | zero => rfl
  | succ n ih => simp only [sumN]; rw [ih fun i hi => h i (by omega), h n (by omega)]; rfl
end
end Zk
namespace Zk
noncomputable section
open PySem PySem.Spec PyProof.Rows L2
/-- the transform -/
def wt (m : Nat) (f : Nat → Int) (i : Nat) : Int := sumN (2 ^ m) fun l => sgn i l * f l
theorem sumN_one {n k : Nat} {f : Nat → Int} (hk : k < n) (c : Int) : sumN n (fun l => (if k = l then c else 0) * f l) = c * f k := by
  induction n with
  | zero => omega
  | succ n ih =>
    simp only [sumN]
    by_cases h : k = n
    · subst h
      rw [if_pos rfl, sumN_zero fun i hi => by rw [if_neg (by omega), Int.zero_mul]]
      omega
    · rw [ih (by omega), if_neg h]
      omega
end
end Zk
namespace Zk
noncomputable section
open PySem PySem.Spec PyProof.Rows L2
end
end Zk
namespace Zk
noncomputable section
open PySem PySem.Spec PyProof.Rows L2
end
end Zk
namespace Zk
noncomputable section
open PySem PySem.Spec PyProof.Rows L2
/-- the counts of a stream by its keys -/
def K (st : List (Int × Int)) : Nat → Int := fun b => ksum st (b : Int)
theorem K_cons (p : Int × Int) (st : List (Int × Int)) (b : Nat) : K (p :: st) b = (if p.1 = (b : Int) then p.2 else 0) + K st b := by
  unfold K
  rw [show p :: st = [p] ++ st from rfl, ksum_app, ksum_one]
/-- a sum over a stream, by its keys -/
theorem wsum {N : Nat} {st : List (Int × Int)} (h : ∀ p ∈ st, 0 ≤ p.1 ∧ p.1 < (N : Int)) (g : Nat → Int) : sumN N (fun l => g l * K st l) = (st.map fun p => g p.1.toNat * p.2).sum := by
  induction st with
  | nil =>
    rw [sumN_zero fun i _ => by unfold K; simp]; rfl
  | cons p st ih =>
    have hp := h p List.mem_cons_self
    rw [List.map_cons, List.sum_cons, ← ih fun q hq => h q (List.mem_cons_of_mem _ hq)]
    have e : (fun l => g l * K (p :: st) l) = fun l => (if p.1.toNat = l then p.2 else 0) * g l + g l * K st l := by
      funext l
      rw [K_cons]
      have : p.1 = (l : Int) ↔ p.1.toNat = l := by omega
      simp only [this]
      grind
    rw [e, sumN_add, sumN_one (by omega)]
    grind
end
end Zk
namespace Zk
noncomputable section
open PySem PySem.Spec PyProof.Rows L2
end
end Zk
namespace Zk
noncomputable section
open PySem PySem.Spec PyProof.Rows L2
end
end Zk
namespace Zk
noncomputable section
open PySem PySem.Spec PyProof.Rows L2
/-- counts below 2 ** 200 -/
def CB (st : List (Int × Int)) : Prop := ∀ p ∈ st, p.2.natAbs ≤ 2 ^ 200
end
end Zk
namespace Zk
noncomputable section
open PySem PySem.Spec PyProof.Rows L2
@[simp] theorem gSrt1_tup (ns : List Int) : gSrt1 [.tup (ns.map D.int)] = some (.lst ((srt ns).map D.int), 9) := by
  have e : gSrt1 [.tup (ns.map D.int)] = gSrtTT [.tup (ns.map D.int)] := rfl
  rw [e]; simp [gSrtTT, gSrtT]
end
end Zk
namespace Zk
noncomputable section
open PySem PySem.Spec PyProof.Rows L2
end
end Zk
namespace Zk
noncomputable section
open PySem PySem.Spec PyProof.Rows L2
@[simp] theorem gMin_ints (i j : Int) : gMin [.int i, .int j] = some (.int (min i j), 9) := rfl
end
end Zk
namespace Zk
noncomputable section
open PySem PySem.Spec PyProof.Rows L2
theorem at1 {α : Type} (x y : α) (l : List α) : atI (x :: y :: l) 1 = some y := by
  have : ixN (x :: y :: l).length 1 = some 1 := ixN_ok (by decide) (by simp; omega)
  unfold atI; rw [this]; rfl
end
end Zk
namespace Zk
noncomputable section
open PySem PySem.Spec PyProof.Rows L2
end
end Zk
namespace Zk
noncomputable section
open PySem PySem.Spec PyProof.Rows L2
/-- a fraction in lowest terms -/
def fr (q : Rat) : D := .tup [.int q.num, .int q.den]
@[simp] theorem imm_fr (q : Rat) : imm (fr q) = true := by simp [fr]
@[simp] theorem imms_fr (qs : List Rat) : imms (qs.map fr) = true := imms_map' imm_fr qs
@[simp] theorem upl_fr {n m : Nat} {d : D} {p : Rat} : upl n d (fr p) m = n := upl_imm (imm_fr p)
theorem big_8000 {i : Int} (h : i.natAbs ≤ 2 ^ 8000) : i.natAbs < big := by
  have : (2 : Nat) ^ 8000 < 2 ^ 8001 := Nat.pow_lt_pow_right (by decide) (by decide)
  exact big_of (k := 8001) (by omega) (by decide)
end
end Zk
namespace Zk
noncomputable section
open PySem PySem.Spec PyProof.Rows L2
/-- how great a fraction's parts are, in bits -/
def szR (a b : Nat) (q : Rat) : Prop := q.num.natAbs ≤ 2 ^ a ∧ q.den ≤ 2 ^ b
theorem szR.mono {a b a' b' : Nat} {q : Rat} (h : szR a b q) (ha : a ≤ a') (hb : b ≤ b') : szR a' b' q :=
  ⟨Nat.le_trans h.1 (Nat.pow_le_pow_right (by decide) ha), Nat.le_trans h.2 (Nat.pow_le_pow_right (by decide) hb)⟩
theorem abs_big {i : Int} {k : Nat} (h : i.natAbs ≤ 2 ^ k) (hk : k ≤ 8000) : i.natAbs < big := big_8000 (Nat.le_trans h (Nat.pow_le_pow_right (by decide) hk))
section
variable {f g : Rat} {a b c e : Nat}
end
end
end Zk
namespace Zk
noncomputable section
open PySem PySem.Spec PyProof.Rows L2
/-- pairs of some indexes with their numbers -/
def Sel (N : Nat) (w : Nat → Int) (kp : List (Int × Int)) : Prop := (∀ p ∈ kp, ∃ a : Nat, a < N ∧ p = ((a : Int), w a)) ∧ (kp.map (·.1)).Nodup
theorem ksum_nodup {st : List (Int × Int)} (nd : (st.map (·.1)).Nodup) {p : Int × Int} (hp : p ∈ st) : ksum st p.1 = p.2 := by
  obtain ⟨a, b, e⟩ := List.append_of_mem hp
  rw [e] at nd ⊢
  have e2 : p :: b = [p] ++ b := rfl
  rw [e2, ksum_app, ksum_app, ksum_one, if_pos rfl]
  rw [List.map_append, List.map_cons] at nd
  have n2 := List.nodup_append.mp nd
  have ka : ksum a p.1 = 0 := ksum_out fun q hq e => n2.2.2 q.1 (List.mem_map.mpr ⟨q, hq, rfl⟩) p.1 (by simp) e
  have kb : ksum b p.1 = 0 := ksum_out fun q hq e => (List.nodup_cons.mp n2.2.1).1 (List.mem_map.mpr ⟨q, hq, e⟩)
  rw [ka, kb]; omega
theorem Sel.two {N : Nat} {w : Nat → Int} {kp : List (Int × Int)} (h : Sel N w kp) (a : Nat) : K kp a = 0 ∨ K kp a = w a := by
  by_cases c : ∃ p ∈ kp, p.1 = (a : Int)
  · obtain ⟨p, hp, e⟩ := c
    right
    obtain ⟨b, hb, rfl⟩ := h.1 p hp
    have := ksum_nodup h.2 hp
    unfold K
    rw [← e, this]
    simp only at e ⊢
    rw [show a = b by omega]
  · left
    exact ksum_out fun q hq e => c ⟨q, hq, e⟩
theorem Sel.rng {N : Nat} {w : Nat → Int} {kp : List (Int × Int)} (h : Sel N w kp) : ∀ p ∈ kp, 0 ≤ p.1 ∧ p.1 < (N : Int) := fun p hp => by
  obtain ⟨b, hb, rfl⟩ := h.1 p hp
  exact ⟨by simp, by simp only; omega⟩
/-- the squares of the kept ones -/
def sq2 (kp : List (Int × Int)) : Int := (kp.map fun p => p.2 * p.2).sum
theorem Sel.sq {N : Nat} {w : Nat → Int} {kp : List (Int × Int)} (h : Sel N w kp) : sumN N (fun a => K kp a * K kp a) = sq2 kp := by
  rw [wsum h.rng (K kp)]
  unfold sq2
  congr 1
  refine List.map_congr_left fun p hp => ?_
  have e := ksum_nodup h.2 hp
  have := (h.rng p hp).1
  unfold K
  rw [show ((p.1.toNat : Nat) : Int) = p.1 by omega, e]
end
end Zk
namespace Zk
noncomputable section
open PySem PySem.Spec PyProof.Rows L2
def nzp (N : Nat) (w : Nat → Int) : List (Int × Int) := ((List.range N).filter fun a => decide (w a ≠ 0)).map fun (a : Nat) => (-((w a).natAbs : Int), (a : Int))
def top (N : Nat) (w : Nat → Int) (k : Nat) : List (Int × Int) := (srtP (nzp N w)).take k
end
end Zk
namespace Zk
noncomputable section
open PySem PySem.Spec PyProof.Rows L2
end
end Zk
namespace Zk
noncomputable section
open PySem PySem.Spec PyProof.Rows L2
@[simp] theorem imm_Fd (F : Fd) : imm F.d = true := by cases F <;> simp [Fd.d]
def tN (cs : List Nat) : D := .tup (cs.map fun c : Nat => D.int (c : Int))
@[simp] theorem imm_tN (cs : List Nat) : imm (tN cs) = true := by
  unfold tN
  rw [imm_tup]
  exact imms_map' (fun _ => by simp) _
@[simp] theorem seqD_tN (cs : List Nat) : seqD (tN cs) = some (cs.map fun c : Nat => D.int (c : Int)) := rfl
section
variable {F : Fd} {a b : Nat}
/-- the sign of a draw at a key -/
def Fd.sgn (F : Fd) (cs : List Nat) (k : Nat) : Int := if F.val cs k % 2 = 0 then 1 else -1
end
end
end Zk
namespace Zk
noncomputable section
open PySem PySem.Spec PyProof.Rows L2
end
end Zk
namespace Zk
noncomputable section
open PySem PySem.Spec PyProof.Rows L2
end
end Zk
namespace Zk
noncomputable section
open PySem PySem.Spec PyProof.Rows L2
end
end Zk
namespace Zk
noncomputable section
open PySem PySem.Spec PyProof.Rows L2
/-- the block b of a level lies within the span -/
def wi (low high : Int) (j : Nat) (b : Int) : Prop := low ≤ b * 2 ^ j ∧ (b + 1) * 2 ^ j ≤ high + 1
theorem p2 (j : Nat) : (0 : Int) < 2 ^ j := Int.pow_pos (by decide)
theorem wi_s {low high : Int} {j : Nat} {b : Int} : wi low high (j + 1) b ↔ wi low high j (2 * b) ∧ wi low high j (2 * b + 1) := by
  unfold wi
  have h := p2 j
  rw [Int.pow_succ]
  generalize (2 : Int) ^ j = q at *
  have e1 : b * (q * 2) = 2 * (b * q) := by grind
  have e2 : (b + 1) * (q * 2) = 2 * (b * q) + 2 * q := by grind
  have e3 : 2 * b * q = 2 * (b * q) := by grind
  have e4 : (2 * b + 1) * q = 2 * (b * q) + q := by grind
  have e5 : (2 * b + 1 + 1) * q = 2 * (b * q) + 2 * q := by grind
  rw [e1, e2, e3, e4, e5]
  omega
theorem div_s (x : Int) (i : Nat) : x / 2 ^ (i + 1) = x / 2 ^ i / 2 := by
  rw [Int.pow_succ, ← Int.ediv_ediv_of_nonneg (Int.le_of_lt (p2 i))]
/-- the blocks below, around a place -/
theorem wi_down {low high x : Int} {i : Nat} : ∀ {d : Nat}, wi low high (i + d) (x / 2 ^ (i + d)) → wi low high i (x / 2 ^ i)
  | 0, h => h
  | d + 1, h => by
    refine wi_down (d := d) ?_
    rw [show i + (d + 1) = (i + d) + 1 by omega, div_s, wi_s] at h
    generalize x / 2 ^ (i + d) = q at *
    have : q = 2 * (q / 2) ∨ q = 2 * (q / 2) + 1 := by omega
    rcases this with e | e
    · rw [e]; exact h.1
    · rw [e]; exact h.2
theorem wi_le {low high x : Int} {i j : Nat} (hij : i ≤ j) (h : wi low high j (x / 2 ^ j)) : wi low high i (x / 2 ^ i) := by
  obtain ⟨d, rfl⟩ := Nat.exists_eq_add_of_le hij
  exact wi_down h
/-- a block of the fewest -/
def Cov (m : Nat) (low high : Int) (p : Int × Int) : Prop := ∃ j : Nat, j ≤ m ∧ p.1 = j ∧ wi low high j p.2 ∧ (j < m → ¬ wi low high (j + 1) (p.2 / 2))
theorem mul_at {b : Int} (j : Nat) : b * 2 ^ j / 2 ^ j = b := Int.mul_ediv_cancel b (Int.ne_of_gt (p2 j))
end
end Zk
namespace Zk
noncomputable section
open PySem PySem.Spec PyProof.Rows L2
@[simp] theorem prD_pr : prD = pr := rfl
@[simp] theorem gSrt1_prs (ps : List (Int × Int)) : gSrt1 [.lst (ps.map pr)] = some (.lst ((srtP ps).map pr), 9) := by
  cases ps with
  | nil =>
    have e : srtP [] = [] := List.Perm.eq_nil (srtP_perm [])
    rw [e]
    have := gSrt1_ints []
    have e2 : srt [] = [] := List.Perm.eq_nil (srt_perm [])
    rw [e2] at this
    exact this
  | cons p ps =>
    have e : gSrt1 [.lst ((p :: ps).map pr)] = gSrtP [.lst ((p :: ps).map pr)] := rfl
    rw [e]
    have : pof ((p :: ps).map pr) = some (p :: ps) := pof_map (p :: ps)
    simp only [gSrtP, this, Option.map_some, prD_pr]
/-- the list of the fewest blocks, ascending -/
def IsCvr (m : Nat) (low high : Int) (L : List (Int × Int)) : Prop := SrtO.Srtd SrtO.lexB L ∧ L.Nodup ∧ ∀ p, p ∈ L ↔ Cov m low high p
theorem lex_snoc {L : List (Int × Int)} {p : Int × Int} (h : L.Pairwise fun a b => SrtO.lexB a b = true) (hp : ∀ q ∈ L, SrtO.lexB q p = true) : (L ++ [p]).Pairwise fun a b => SrtO.lexB a b = true := by
  rw [List.pairwise_append]
  exact ⟨h, by simp, fun a ha b hb => by simp at hb; subst hb; exact hp a ha⟩
/-- what the program keeps before a level -/
structure PC (m : Nat) (low high : Int) (k : Nat) (f l : Int) (L : List (Int × Int)) : Prop where
  srt : L.Pairwise fun a b => SrtO.lexB a b = true
  mem : ∀ p, p ∈ L ↔ Cov m low high p ∧ p.1 < k
  blk : k ≤ m → ∀ b, Zk.wi low high k b ↔ f ≤ b ∧ b ≤ l
  len : L.length ≤ 2 * k
  len2 : m < k → L.length ≤ max 1 (2 * m)
theorem PC.done {m k : Nat} {low high f l : Int} {L : List (Int × Int)} (h : PC m low high k f l L) (he : k ≤ m → l < f) : IsCvr m low high L := by
  refine ⟨h.srt.imp fun {a b} q => ?_, h.srt.imp fun {a b} q e => ?_, fun p => ⟨fun hp => ((h.mem p).mp hp).1, fun hp => (h.mem p).mpr ⟨hp, ?_⟩⟩⟩
  · have := SrtO.lexB_iff.mp q
    exact SrtO.lexB_no.mpr (by omega)
  · have := SrtO.lexB_iff.mp q
    rw [e] at this
    omega
  · obtain ⟨j, hj, e, w1, w2⟩ := hp
    rw [e]
    apply Classical.byContradiction
    intro hc
    have hk : k ≤ j := by omega
    have w := wi_le (x := p.2 * 2 ^ j) hk (by rw [mul_at]; exact w1)
    have := (h.blk (by omega) _).mp w
    have := he (by omega)
    omega
theorem cov_lvl {m k : Nat} {low high : Int} (hk : k ≤ m) {b : Int} : Cov m low high ((k : Int), b) ↔ wi low high k b ∧ (k < m → ¬ wi low high (k + 1) (b / 2)) := by
  constructor
  · rintro ⟨j, hj, e, w1, w2⟩
    have e : (k : Int) = j := e
    have : k = j := by omega
    subst this
    exact ⟨w1, w2⟩
  · rintro ⟨w1, w2⟩
    exact ⟨k, hk, rfl, w1, w2⟩
/-- at the last level there is one block at most -/
theorem wi_top {m : Nat} {low high b : Int} (h0 : 0 ≤ low) (h2 : high < 2 ^ m) (w : wi low high m b) : b = 0 := by
  unfold wi at w
  have q := p2 m
  have a : 0 ≤ b := by
    apply Classical.byContradiction
    intro hc
    have : b * 2 ^ m < 0 := Int.mul_neg_of_neg_of_pos (by omega) q
    omega
  have c : b + 1 ≤ 1 := by
    apply Classical.byContradiction
    intro hc
    have h3 : 2 * (2 : Int) ^ m ≤ (b + 1) * 2 ^ m := Int.mul_le_mul_of_nonneg_right (by omega) (Int.le_of_lt q)
    omega
  omega
/-- one level of the program -/
theorem PC.step {m k : Nat} {low high f l : Int} {L : List (Int × Int)} (h0 : 0 ≤ low) (h2 : high < 2 ^ m) (h : PC m low high k f l L) (hk : k ≤ m) (hf : f ≤ l) :
    let c1 := f % 2 = 1 ∨ k = m
    let f1 := if c1 then f + 1 else f
    let c2 := f1 ≤ l ∧ l % 2 = 0
    PC m low high (k + 1) (f1 / 2) ((if c2 then l - 1 else l) / 2) ((L ++ if c1 then [((k : Int), f)] else []) ++ if c2 then [((k : Int), l)] else []) := by
  intro c1 f1 c2
  have lt1 : ∀ q ∈ L, ∀ b : Int, SrtO.lexB q ((k : Int), b) = true := fun q hq b => SrtO.lexB_iff.mpr (.inl ((h.mem q).mp hq).2)
  have wk := h.blk hk
  have top : k = m → f = 0 ∧ l = 0 := fun e => by
    subst e
    exact ⟨wi_top h0 h2 ((wk f).mpr ⟨Int.le_refl _, hf⟩), wi_top h0 h2 ((wk l).mpr ⟨hf, Int.le_refl _⟩)⟩
  have up : ∀ b, wi low high (k + 1) b ↔ f ≤ 2 * b ∧ 2 * b + 1 ≤ l := fun b => by
    rw [wi_s, wk, wk]; omega
  -- which blocks of this level are of the fewest
  have cl : ∀ b, Cov m low high ((k : Int), b) ↔ (c1 ∧ b = f) ∨ (c2 ∧ b = l) := fun b => by
    rw [cov_lvl hk, wk, up]
    by_cases hm : k = m
    · obtain ⟨e1, e2⟩ := top hm
      have t1 : c1 := .inr hm
      have t2 : ¬ c2 := by show ¬ ((if c1 then f + 1 else f) ≤ l ∧ l % 2 = 0); rw [if_pos t1]; omega
      simp only [t1, t2, true_and, false_and, or_false]
      omega
    · have hm2 : k < m := by omega
      by_cases o : f % 2 = 1
      · have t1 : c1 := .inl o
        have e3 : f1 = f + 1 := if_pos t1
        show _ ↔ (c1 ∧ b = f) ∨ ((f1 ≤ l ∧ l % 2 = 0) ∧ b = l)
        rw [e3]
        simp only [t1, true_and]
        omega
      · have t1 : ¬ c1 := fun z => z.elim o hm
        have e3 : f1 = f := if_neg t1
        show _ ↔ (c1 ∧ b = f) ∨ ((f1 ≤ l ∧ l % 2 = 0) ∧ b = l)
        rw [e3]
        simp only [t1, false_and, false_or]
        omega
  have emp : k = m → L = [] := fun e => by
    obtain ⟨e1, e2⟩ := top e
    subst e
    apply List.eq_nil_iff_forall_not_mem.mpr
    rintro ⟨x, b⟩ hp
    obtain ⟨⟨j, hj, ej, w1, w2⟩, lt⟩ := (h.mem _).mp hp
    simp only at ej w1 w2 lt
    refine w2 (by omega) ?_
    have q := p2 j
    have w1' := w1
    unfold Zk.wi at w1'
    have e3 : (b + 1) * 2 ^ j = b * 2 ^ j + 2 ^ j := by grind
    have ex : b * 2 ^ j / 2 ^ k = 0 := Int.ediv_eq_zero_of_lt (by omega) (by omega)
    have wt : Zk.wi low high k (b * 2 ^ j / 2 ^ k) := by
      rw [ex]; exact (wk 0).mpr (by omega)
    have := wi_le (i := j + 1) (by omega) wt
    rw [div_s, mul_at] at this
    exact this
  refine ⟨?_, fun p => ?_, fun hk1 b => ?_, ?_, fun hmk => ?_⟩
  · have s1 : (L ++ if c1 then [((k : Int), f)] else []).Pairwise fun a b => SrtO.lexB a b = true := by
      split
      · exact lex_snoc h.srt fun q hq => lt1 q hq f
      · rw [List.append_nil]; exact h.srt
    by_cases hc2 : c2
    · rw [if_pos hc2]
      refine lex_snoc s1 fun q hq => ?_
      rcases List.mem_append.mp hq with hq | hq
      · exact lt1 q hq l
      · split at hq
        · rename_i hc1
          simp at hq
          subst hq
          have : f1 = f + 1 := if_pos hc1
          have := hc2.1
          exact SrtO.lexB_iff.mpr (.inr ⟨rfl, by simp only; omega⟩)
        · simp at hq
    · rw [if_neg hc2, List.append_nil]; exact s1
  · obtain ⟨x, b⟩ := p
    have hsplit : ((x, b) ∈ (L ++ if c1 then [((k : Int), f)] else []) ++ if c2 then [((k : Int), l)] else []) ↔ (x, b) ∈ L ∨ (x = k ∧ ((c1 ∧ b = f) ∨ (c2 ∧ b = l))) := by
      rw [List.mem_append, List.mem_append]
      by_cases a1 : c1 <;> by_cases a2 : c2 <;> simp [a1, a2]
      · constructor
        · rintro ((h | ⟨rfl, rfl⟩) | ⟨rfl, rfl⟩)
          · exact .inl h
          · exact .inr ⟨rfl, .inl rfl⟩
          · exact .inr ⟨rfl, .inr rfl⟩
        · rintro (h | ⟨rfl, rfl | rfl⟩)
          · exact .inl (.inl h)
          · exact .inl (.inr ⟨rfl, rfl⟩)
          · exact .inr ⟨rfl, rfl⟩
    rw [hsplit, h.mem]
    constructor
    · rintro (⟨c, lt⟩ | ⟨rfl, hb⟩)
      · exact ⟨c, by simp only at lt ⊢; omega⟩
      · exact ⟨(cl b).mpr hb, by simp only; omega⟩
    · rintro ⟨c, lt⟩
      by_cases e : x = k
      · subst e
        exact .inr ⟨rfl, (cl b).mp c⟩
      · exact .inl ⟨c, by simp only at lt ⊢; omega⟩
  · rw [up]
    have hm : ¬ k = m := by omega
    by_cases o : f % 2 = 1
    · have t1 : c1 := .inl o
      have e3 : f1 = f + 1 := if_pos t1
      by_cases a2 : c2
      · have a3 : f1 ≤ l ∧ l % 2 = 0 := a2
        rw [e3] at a3
        rw [if_pos a2, e3]
        omega
      · have a3 : ¬ (f1 ≤ l ∧ l % 2 = 0) := a2
        rw [e3] at a3
        rw [if_neg a2, e3]
        omega
    · have t1 : ¬ c1 := fun z => z.elim o hm
      have e3 : f1 = f := if_neg t1
      by_cases a2 : c2
      · have a3 : f1 ≤ l ∧ l % 2 = 0 := a2
        rw [e3] at a3
        rw [if_pos a2, e3]
        omega
      · have a3 : ¬ (f1 ≤ l ∧ l % 2 = 0) := a2
        rw [e3] at a3
        rw [if_neg a2, e3]
        omega
  · have := h.len
    split <;> split <;> simp <;> omega
  · have e : k = m := by omega
    obtain ⟨e1, e2⟩ := top e
    have t1 : c1 := .inr e
    have t2 : ¬ c2 := by show ¬ ((if c1 then f + 1 else f) ≤ l ∧ l % 2 = 0); rw [if_pos t1]; omega
    rw [if_pos t1, if_neg t2, emp e]
    simp
    omega

end
end Zk
namespace Zk
noncomputable section
open PySem PySem.Spec PyProof.Rows L2
end
end Zk
namespace Zk
noncomputable section
open PySem PySem.Spec PyProof.Rows L2
end
end Zk
namespace Zk
noncomputable section
open PySem PySem.Spec PyProof.Rows L2
end
end Zk
namespace Zk
noncomputable section
open PySem PySem.Spec PyProof.Rows L2
end
end Zk
namespace Zk
noncomputable section
open PySem PySem.Spec PyProof.Rows L2
end
end Zk
namespace Zk
noncomputable section
open PySem PySem.Spec PyProof.Rows L2
def gd (ns : List Int) (j : Nat) : Int := ns.getD j 0
end
end Zk
namespace Zk
noncomputable section
open PySem PySem.Spec PyProof.Rows L2
end
end Zk
namespace Zk
noncomputable section
open PySem PySem.Spec PyProof.Rows L2
end
end Zk
namespace Zk
noncomputable section
open PySem PySem.Spec PyProof.Rows L2
def S_law_putb : Fs := (mRet (mAdd (mAdd (mSl (mVar 0) (mC .non) (mInt (mVar 1))) (mTup (mAc (mVar 2) mA0))) (mSl (mVar 0) (mInt (mAdd (mVar 1) (mC (.int 1)))) (mC .non))))
def S_law_put : Mir := mDef none 3 S_law_putb
end
end Zk
namespace Zk
noncomputable section
open PySem PySem.Spec PyProof.Rows L2
def inr (n : Nat) (p : Int × Int) : Prop := 0 ≤ p.1 ∧ p.1 < p.2 ∧ p.2 < n
inductive At where | i (j : Int) | t (ys : List Int)
inductive El where | i (j : Int) | t (xs : List At)
def aD : At → D
  | .i j => .int j
  | .t ys => .tup (ys.map D.int)
def eD : El → D
  | .i j => .int j
  | .t xs => .tup (xs.map aD)
def el (p : Int × Int) : El := .t [.i p.1, .i p.2]
@[simp] theorem aD_i (j : Int) : aD (.i j) = .int j := rfl
@[simp] theorem aD_t (ys : List Int) : aD (.t ys) = .tup (ys.map D.int) := rfl
@[simp] theorem eD_i (j : Int) : eD (.i j) = .int j := rfl
@[simp] theorem eD_t (xs : List At) : eD (.t xs) = .tup (xs.map aD) := rfl
@[simp] theorem eD_el (p : Int × Int) : eD (el p) = pr p := rfl
@[simp] theorem imm_aD (a : At) : imm (aD a) = true := by cases a <;> simp
theorem imms_map'' {α : Type} {f : α → D} (h : ∀ x, imm (f x) = true) (xs : List α) : imms (xs.map f) = true := imms_map f h xs
@[simp] theorem imm_eD (a : El) : imm (eD a) = true := by cases a <;> simp [imms_map'' imm_aD]
end
end Zk
namespace Zk
noncomputable section
open PySem PySem.Spec PyProof.Rows L2
instance (n : Nat) (p : Int × Int) : Decidable (inr n p) := by unfold inr; infer_instance
end
end Zk
namespace Zk
noncomputable section
open PySem PySem.Spec PyProof.Rows L2
@[simp] theorem imms_eD (es : List El) : imms (es.map eD) = true := imms_map'' imm_eD es
@[simp] theorem imms_aD (es : List At) : imms (es.map aD) = true := imms_map'' imm_aD es
end
end Zk
namespace Zk
noncomputable section
open PySem PySem.Spec PyProof.Rows L2
/-- a pair that the judge takes -/
def tk2 (ns : List Int) (p : Int × Int) : Prop := inr ns.length p ∧ gd ns p.1.toNat ≠ gd ns p.2.toNat
end
end Zk
namespace Zk
noncomputable section
open PySem PySem.Spec PyProof.Rows L2
end
end Zk
namespace Zk
noncomputable section
open PySem PySem.Spec PyProof.Rows L2
def tE (es : List El) : D := .tup (es.map eD)
@[simp] theorem imm_tE (es : List El) : imm (tE es) = true := by simp [tE]
@[simp] theorem imms_tE (T : List (List El)) : imms (T.map tE) = true := imms_map'' imm_tE T
theorem gAdd_tE {a b : List El} (h : a.length + b.length ≤ 100000) : gAdd [tE a, tE b] = some (tE (a ++ b), 0) := by
  have := gAdd_tup (a.map eD) (b.map eD)
  rw [if_pos (by rw [sizeL]; simp; omega), ← List.map_append] at this
  exact this
theorem gSl_to (a : List El) (k : Nat) : gSl [tE a, .non, .int k] = some (tE (a.take k), 0) := by
  have := cut_upto (xs := a.map eD) (i := (k : Int)) (by omega)
  rw [Int.toNat_natCast, ← List.map_take] at this
  unfold tE
  rw [gSl_tup]
  simp [part, this, tE]
theorem gSl_from (a : List El) (k : Nat) : gSl [tE a, .int k, .non] = some (tE (a.drop k), 0) := by
  have := cut_on (xs := a.map eD) (i := (k : Int)) (by omega)
  rw [Int.toNat_natCast, ← List.map_drop] at this
  unfold tE
  rw [gSl_tup]
  simp [part, this, tE]
def putE (es : List El) (k : Nat) (x : El) : List El := es.take k ++ [x] ++ es.drop (k + 1)
theorem one_E (x : El) : D.tup [eD x] = tE [x] := rfl
theorem put_W (es : List El) (k : Nat) (x : El) (h : es.length ≤ 1000) : W (S_law_put [tE es, .int k, eD x]) fun r => r = (tE (putE es k x), 0, .non) := by
  refine W_O fun Q' hQ => ?_
  unfold S_law_put S_law_putb
  have a1 := gAdd_tE (a := es.take k) (b := [x]) (by simp; omega)
  have a2 := gAdd_tE (a := es.take k ++ [x]) (b := es.drop (k + 1)) (by simp; omega)
  have s1 := gSl_to es k
  have s2 : gSl [tE es, .int ((k : Int) + 1), .non] = some (tE (es.drop (k + 1)), 0) := gSl_from es (k + 1)
  simp (disch := first | assumption | (simp; done) | omega) [ent0_def, s1, s2, one_E, a1, a2, -List.append_assoc]
  first | exact hQ _ rfl | exact hQ _ (by unfold putE; simp)
theorem put_eq (es : List El) (k : Nat) (x : El) (h : es.length ≤ 1000) : S_law_put [tE es, .int k, eD x] = some (tE (putE es k x), 0, .non) := by
  obtain ⟨_, e, rfl⟩ := put_W es k x h
  exact e
def Few (T : List (List El)) : Prop := (∀ es ∈ T, es.length ≤ 502) ∧ T.length ≤ 100
theorem Few.more {T : List (List El)} {n : Nat} (h : (∀ es ∈ T, es.length ≤ 502) ∧ T.length = n) {U : List (List El)} (hu : ∀ es ∈ U, es.length ≤ 502) : (∀ es ∈ T ++ U, es.length ≤ 502) ∧ (T ++ U).length = n + U.length :=
  ⟨fun es he => (List.mem_append.mp he).elim (h.1 es) (hu es), by rw [List.length_append, h.2]⟩
def ev (ns : List Int) (P : List (Int × Int)) (s : List Int) (T : List (List El)) (k a b q u8 u9 u10 u11 u12 : Option (D × Nat)) : Ev := [some (dr s, 1), some (.tup (ns.map D.int), 0), some (tE (P.map el), 0), some (.lst (T.map tE), 9), k, a, b, q, u8, u9, u10, u11, u12]
end
end Zk
namespace Zk
noncomputable section
open PySem PySem.Spec PyProof.Rows L2
end
end Zk
namespace Zk
noncomputable section
open PySem PySem.Spec PyProof.Rows L2
end
end Zk
namespace Zk
noncomputable section
open PySem PySem.Spec PyProof.Rows L2
def sg (x i : Nat) : Int := if x / 2 ^ i % 2 = 0 then 1 else -1
def con (m : Nat) (c : Nat → Nat → Int) (p : Nat × Nat) (x : Nat) : Int := if x / 2 ^ (p.1 + 1) = p.2 then sg x p.1 * c p.1 p.2 * 2 ^ (m - 1 - p.1) else 0
/-- places of the rows, each once -/
def Pos (m : Nat) (ps : List (Nat × Nat)) : Prop := (∀ p ∈ ps, p.1 < m ∧ p.2 < 2 ^ (m - 1 - p.1)) ∧ ps.Nodup
end
end Zk
namespace Zk
noncomputable section
open PySem PySem.Spec PyProof.Rows L2
section
variable (m : Nat) (ln : Nat → Nat) (c : Nat → Nat → Int)
def tri (p : Nat × Nat) : List Int := [1 + (p.1 : Int), (p.2 : Int), c p.1 p.2]
end
section
variable {m : Nat} {ln : Nat → Nat} {c : Nat → Nat → Int} {k : Nat}
end
end
end Zk
namespace Zk
noncomputable section
open PySem PySem.Spec PyProof.Rows L2
end
end Zk
namespace Zk
noncomputable section
open PySem PySem.Spec PyProof.Rows L2
end
end Zk
namespace Zk
noncomputable section
open PySem PySem.Spec PyProof.Rows L2
def Td (T : List (List Nat)) (r : Nat) : List Nat := T.getD r []
def Vt (F : Fd) (T : List (List Nat)) (r k : Nat) : Nat := F.val (Td T r) k
def ind (F : Fd) (T : List (List Nat)) (r b : Nat) (k : Int) : Int := if Vt F T r k.toNat = b then 1 else 0
/-- rows of draws over the field -/
def Tok (F : Fd) (T : List (List Nat)) : Prop := ∀ cs ∈ T, ∀ c ∈ cs, c < F.n
section
variable {p : Nat} {T : List (List Nat)}
theorem nat_of {k : Int} (h : 0 ≤ k) : ∃ n : Nat, k = (n : Int) := Int.eq_ofNat_of_zero_le h
end
end
end Zk
namespace Zk
noncomputable section
open PySem PySem.Spec PyProof.Rows L2
section
variable {p : Nat} {T : List (List Nat)}
end
end
end Zk
namespace Zk
noncomputable section
open PySem PySem.Spec PyProof.Rows L2
section
variable {p : Nat} {T : List (List Nat)}
end
end
end Zk
namespace Zk
noncomputable section
open PySem PySem.Spec PyProof.Rows L2
end
end Zk
namespace Zk
noncomputable section
open PySem PySem.Spec PyProof.Rows L2
def tkv (g : Nat → Int) : Nat → Nat
  | 0 => 0
  | n + 1 => tkv g n + if g 0 < 2 * g (n + 1) then 2 ^ n else 0
section
variable {n : Nat} {g : Nat → Int}
end
end
end Zk
namespace Zk
noncomputable section
open PySem PySem.Spec PyProof.Rows L2
/-- what a key adds to the part x of the cell c of row r -/
def hb (F : Fd) (T : List (List Nat)) (w r c x : Nat) (k : Int) : Int := if Vt F T r k.toNat % w = c then (if x = 0 then 1 else ((k.toNat / 2 ^ (x - 1) % 2 : Nat) : Int)) else 0
section
variable {p n w : Nat} {T : List (List Nat)}
end
end
end Zk
namespace Zk
noncomputable section
open PySem PySem.Spec PyProof.Rows L2
section
variable {F : Fd} {T : List (List Nat)} {w n r : Nat} {st : List (Int × Int)}
end
end
end Zk
namespace Zk
noncomputable section
open PySem PySem.Spec PyProof.Rows L2
section
variable {p n w : Nat} {T : List (List Nat)}
end
end
end Zk
namespace Zk
noncomputable section
open PySem PySem.Spec PyProof.Rows L2
section
variable {p n w : Nat} {T : List (List Nat)}
/-- the cell of a key in row r -/
def ccl (F : Fd) (T : List (List Nat)) (w : Nat) (G : Nat → Nat → Nat → Int) (r k : Nat) : Nat → Int := G r (Vt F T r k % w)
/-- a row's own cell tells the key -/
def tells (F : Fd) (T : List (List Nat)) (w n : Nat) (G : Nat → Nat → Nat → Int) (r k : Nat) : Bool := decide (ccl F T w G r k 0 ≠ 0 ∧ tkv (ccl F T w G r k) n = k)
end
end
end Zk
namespace Zk
noncomputable section
open PySem PySem.Spec PyProof.Rows L2
end
end Zk
namespace Zk
noncomputable section
open PySem PySem.Spec PyProof.Rows L2
abbrev Sg := List (List Nat × List Nat)
section
variable {m w : Nat} {T : Sg}
end
end
end Zk
namespace Zk
noncomputable section
open PySem PySem.Spec PyProof.Rows L2
section
variable {m w : Nat} {T : Sg}
end
end
end Zk
namespace Zk
noncomputable section
open PySem PySem.Spec PyProof.Rows L2
theorem imms_tNs (l : List (List Nat)) : imms (l.map tN) = true := imms_map' imm_tN _
theorem lev_tNs (l : List (List Nat)) : lev (l.map tN) = 9 := by unfold lev; rw [imms_tNs]; rfl
end
end Zk
namespace Zk
noncomputable section
open PySem PySem.Spec PyProof.Rows L2
/-- streams of drawn counts with keys below 2 ** m -/
def Sst (m : Nat) (st : List (Int × Int)) : Prop := st.length ≤ 1000 ∧ ∀ q ∈ st, (0 ≤ q.1 ∧ q.1 < 2 ^ m) ∧ q.2.natAbs ≤ 2 ^ 134
section
variable {m w : Nat} {T : Sg} {st : List (Int × Int)}
theorem Sst.b (h : Sst m st) : ∀ q ∈ st, q.2.natAbs < big := fun q hq => abs_big (h.2 q hq).2 (by decide)
theorem Sst.keys (h : Sst m st) : ∀ q ∈ st, 0 ≤ q.1 ∧ q.1 < 2 ^ m := fun q hq => (h.2 q hq).1
theorem Sst.of {ks : List Int} (hl : st.length ≤ 1000) (hk : ∀ k ∈ ks, 0 ≤ k ∧ k < 2 ^ m) (h : ∀ p ∈ st, p.1 ∈ ks ∧ -cMax ≤ p.2 ∧ p.2 ≤ cMax ∧ p.2 ≠ 0) : Sst m st := ⟨hl, fun q hq => ⟨hk _ (h q hq).1, by
  have e3 : cMax = 10000000000000000000000000000000000000121 := rfl
  obtain ⟨_, a, b, _⟩ := h q hq
  rw [e3] at a b
  have : 10000000000000000000000000000000000000121 ≤ 2 ^ 134 := by decide
  omega⟩⟩
theorem Sst.sub (h : Sst m st) {a : List (Int × Int)} (hl : a.length ≤ st.length) (hs : ∀ q ∈ a, q ∈ st) : Sst m a := ⟨by have := h.1; omega, fun q hq => h.2 q (hs q hq)⟩
end
end
end Zk
namespace Zk
noncomputable section
open PySem PySem.Spec PyProof.Rows L2
end
end Zk
namespace Zk
noncomputable section
def lsum {α : Type} (l : List α) (f : α → Int) : Int := (l.map f).sum
section
variable {α β : Type}
@[simp] theorem lsum_nil (f : α → Int) : lsum [] f = 0 := rfl
@[simp] theorem lsum_cons (a : α) (l : List α) (f : α → Int) : lsum (a :: l) f = f a + lsum l f := by simp [lsum]
theorem lsum_app (a b : List α) (f : α → Int) : lsum (a ++ b) f = lsum a f + lsum b f := by simp [lsum]
theorem lsum_ext {l : List α} {f g : α → Int} (h : ∀ x ∈ l, f x = g x) : lsum l f = lsum l g := by unfold lsum; rw [List.map_congr_left h]
theorem lsum_add (l : List α) (f g : α → Int) : lsum l (fun x => f x + g x) = lsum l f + lsum l g := by
  induction l with
  | nil => rfl
  | cons a l ih => simp only [lsum_cons, ih]; omega
theorem lsum_sub (l : List α) (f g : α → Int) : lsum l (fun x => f x - g x) = lsum l f - lsum l g := by
  induction l with
  | nil => rfl
  | cons a l ih => simp only [lsum_cons, ih]; omega
theorem lsum_mul (l : List α) (c : Int) (f : α → Int) : lsum l (fun x => c * f x) = c * lsum l f := by
  induction l with
  | nil => simp
  | cons a l ih => simp only [lsum_cons, ih, Int.mul_add]
theorem lsum_zero (l : List α) : lsum l (fun _ => 0) = 0 := by
  induction l with
  | nil => rfl
  | cons a l ih => simp [ih]
theorem lsum_map (l : List β) (h : β → α) (f : α → Int) : lsum (l.map h) f = lsum l fun x => f (h x) := by simp [lsum, List.map_map, Function.comp_def]
end
section
variable {m : Nat}
def dl (i j : Nat) : Int := if i = j then 1 else 0
def d4 (a b c d : Nat) : Int := dl a b * dl c d + dl a c * dl b d + dl a d * dl b c - 2 * (dl a b * dl a c * dl a d)
end
end
end Zk
namespace Zk
noncomputable section
abbrev Nl := List (Nat × Int)
def Kb (m : Nat) (l : Nl) : Prop := ∀ p ∈ l, p.1 < 2 ^ m
def Nd (l : Nl) : Prop := (l.map (·.1)).Nodup
theorem dl_ne {a b : Nat} (h : a ≠ b) : dl a b = 0 := if_neg h
theorem dl_self (a : Nat) : dl a a = 1 := if_pos rfl
theorem lsum_off {l : Nl} {k : Nat} (h : k ∉ l.map (·.1)) (g : Nat × Int → Int) : lsum l (fun q => dl k q.1 * g q) = 0 := by
  rw [← lsum_zero l]
  exact lsum_ext fun q hq => by rw [dl_ne (fun e => h (by rw [e]; exact List.mem_map_of_mem hq)), Int.zero_mul]
theorem lsum_pick {l : Nl} (nd : Nd l) {p : Nat × Int} (hp : p ∈ l) (g : Nat × Int → Int) : lsum l (fun q => dl p.1 q.1 * g q) = g p := by
  induction l with
  | nil => exact absurd hp (by simp)
  | cons a l ih =>
    obtain ⟨n1, n2⟩ := List.nodup_cons.mp nd
    rw [lsum_cons]
    rcases List.mem_cons.mp hp with rfl | h
    · rw [dl_self, lsum_off n1]; omega
    · rw [ih n2 h, dl_ne (fun e => n1 (by have t : p.1 ∈ l.map (·.1) := List.mem_map_of_mem h; rw [e] at t; exact t))]; omega
section
variable {m : Nat}
def F2 (l : Nl) : Int := lsum l fun p => p.2 * p.2
def F4 (l : Nl) : Int := lsum l fun p => p.2 * p.2 * (p.2 * p.2)
theorem in4 {l : Nl} (nd : Nd l) {p q r : Nat × Int} (hp : p ∈ l) (hq : q ∈ l) (hr : r ∈ l) : lsum l (fun s => d4 p.1 q.1 r.1 s.1 * s.2) = dl p.1 q.1 * r.2 + dl p.1 r.1 * q.2 + dl q.1 r.1 * p.2 - 2 * (dl p.1 q.1 * dl p.1 r.1 * p.2) := by
  have e : ∀ s : Nat × Int, d4 p.1 q.1 r.1 s.1 * s.2 = dl p.1 q.1 * (dl r.1 s.1 * s.2) + dl p.1 r.1 * (dl q.1 s.1 * s.2) + dl q.1 r.1 * (dl p.1 s.1 * s.2) - 2 * (dl p.1 q.1 * dl p.1 r.1) * (dl p.1 s.1 * s.2) := fun s => by
    unfold d4
    rw [Int.sub_mul, Int.add_mul, Int.add_mul]
    simp only [Int.mul_assoc, Int.mul_comm, Int.mul_left_comm]
  rw [lsum_ext fun s _ => e s, lsum_sub, lsum_add, lsum_add, lsum_mul, lsum_mul, lsum_mul, lsum_mul, lsum_pick nd hr (·.2), lsum_pick nd hq (·.2), lsum_pick nd hp (·.2)]
  simp only [Int.mul_assoc]
theorem in3 {l : Nl} (nd : Nd l) {p q : Nat × Int} (hp : p ∈ l) (hq : q ∈ l) : lsum l (fun r => r.2 * lsum l fun s => d4 p.1 q.1 r.1 s.1 * s.2) = dl p.1 q.1 * F2 l + 2 * (p.2 * q.2) - 2 * (dl p.1 q.1 * (p.2 * p.2)) := by
  have e : ∀ r ∈ l, (r.2 * lsum l fun s => d4 p.1 q.1 r.1 s.1 * s.2) = dl p.1 q.1 * (r.2 * r.2) + q.2 * (dl p.1 r.1 * r.2) + p.2 * (dl q.1 r.1 * r.2) - 2 * (dl p.1 q.1 * p.2) * (dl p.1 r.1 * r.2) := fun r hr => by
    rw [in4 nd hp hq hr]
    simp only [Int.mul_sub, Int.mul_add, Int.mul_assoc, Int.mul_comm, Int.mul_left_comm]
  rw [lsum_ext e, lsum_sub, lsum_add, lsum_add, lsum_mul, lsum_mul, lsum_mul, lsum_mul, lsum_pick nd hp (·.2), lsum_pick nd hq (·.2)]
  show dl p.1 q.1 * F2 l + q.2 * p.2 + p.2 * q.2 - 2 * (dl p.1 q.1 * p.2) * p.2 = _
  rw [Int.mul_comm q.2 p.2, Int.mul_assoc 2, Int.mul_assoc (dl p.1 q.1)]
  omega
theorem in2 {l : Nl} (nd : Nd l) {p : Nat × Int} (hp : p ∈ l) : lsum l (fun q => q.2 * lsum l fun r => r.2 * lsum l fun s => d4 p.1 q.1 r.1 s.1 * s.2) = 3 * (p.2 * F2 l) - 2 * (p.2 * (p.2 * p.2)) := by
  have e : ∀ q ∈ l, (q.2 * lsum l fun r => r.2 * lsum l fun s => d4 p.1 q.1 r.1 s.1 * s.2) = F2 l * (dl p.1 q.1 * q.2) + 2 * p.2 * (q.2 * q.2) - 2 * (p.2 * p.2) * (dl p.1 q.1 * q.2) := fun q hq => by
    rw [in3 nd hp hq]
    simp only [Int.mul_sub, Int.mul_add, Int.mul_assoc, Int.mul_comm, Int.mul_left_comm]
  rw [lsum_ext e, lsum_sub, lsum_add, lsum_mul, lsum_mul, lsum_mul, lsum_pick nd hp (·.2)]
  show F2 l * p.2 + 2 * p.2 * F2 l - 2 * (p.2 * p.2) * p.2 = _
  rw [Int.mul_comm (F2 l), Int.mul_assoc 2, Int.mul_assoc 2, Int.mul_assoc p.2]
  omega
theorem in1 {l : Nl} (nd : Nd l) : lsum l (fun p => p.2 * lsum l fun q => q.2 * lsum l fun r => r.2 * lsum l fun s => d4 p.1 q.1 r.1 s.1 * s.2) = 3 * (F2 l * F2 l) - 2 * F4 l := by
  have e : ∀ p ∈ l, (p.2 * lsum l fun q => q.2 * lsum l fun r => r.2 * lsum l fun s => d4 p.1 q.1 r.1 s.1 * s.2) = 3 * F2 l * (p.2 * p.2) - 2 * (p.2 * p.2 * (p.2 * p.2)) := fun p hp => by
    rw [in2 nd hp]
    simp only [Int.mul_sub, Int.mul_assoc, Int.mul_comm, Int.mul_left_comm]
  rw [lsum_ext e, lsum_sub, lsum_mul, lsum_mul]
  show 3 * F2 l * F2 l - 2 * F4 l = _
  rw [Int.mul_assoc]
end
end
end Zk
namespace Zk
noncomputable section
open PySem PySem.Spec PyProof.Rows L2
abbrev iN (c : Nat) : D := .int (c : Int)
section
variable {m : Nat} {st : List (Int × Int)}
theorem Sst.nat (h : Sst m st) {q : Int × Int} (hq : q ∈ st) : ∃ k : Nat, q.1 = (k : Int) ∧ k < 2 ^ m := by
  obtain ⟨k, hk⟩ := nat_of (h.keys q hq).1
  refine ⟨k, hk, ?_⟩
  have := (h.keys q hq).2
  rw [hk] at this
  exact Int.ofNat_lt.mp (by rw [Int.natCast_pow]; exact this)
theorem Sst.natc (h : Sst m st) {q : Int × Int} (hq : q ∈ cof st) : ∃ k : Nat, q.1 = (k : Int) ∧ k < 2 ^ m := by
  obtain ⟨q', hq', e⟩ := cof_keys hq
  rw [← e]
  exact h.nat hq'
end
end
end Zk
namespace Zk
noncomputable section
open PySem PySem.Spec PyProof.Rows L2
section
variable {E E0 E0' : Ev} {it it2 : Fi} {g g2 : Fg} {c c2 : Ft} {f : Fe} {is is2 : List Nat} {Qe : Op × Ev → Prop} {Q : List (D × Nat) × Ev → Prop} {α β : Type}
end
section
variable {m : Nat} {st : List (Int × Int)}
def nl (st : List (Int × Int)) : Nl := (cof st).map fun q => (q.1.toNat, q.2)
theorem Sst.kb (h : Sst m st) : Kb m (nl st) := fun p hp => by
  obtain ⟨q, hq, rfl⟩ := List.mem_map.mp hp
  obtain ⟨k, hk, kl⟩ := h.natc hq
  show q.1.toNat < 2 ^ m
  rw [hk, Int.toNat_natCast]; exact kl
theorem Sst.nd (h : Sst m st) : Nd (nl st) := by
  have n1 := cof_nodup st
  unfold Nd nl
  rw [List.map_map]
  refine List.pairwise_map.mpr ?_
  have n2 := List.pairwise_map.mp n1
  refine n2.imp_of_mem fun {a b} ha hb hab => ?_
  obtain ⟨k, hk, kl⟩ := h.natc ha
  obtain ⟨k', hk', kl'⟩ := h.natc hb
  show a.1.toNat ≠ b.1.toNat
  omega
end
end
end Zk
namespace Zk
noncomputable section
open PySem PySem.Spec PyProof.Rows L2
section
variable {m : Nat} {st ot : List (Int × Int)}
theorem Sst.cb (hs : Sst m st) : CB st := fun q hq => Nat.le_trans (hs.2 q hq).2 (Nat.pow_le_pow_right (by decide) (by decide))
end
end
end Zk
namespace Zk
noncomputable section
open PySem PySem.Spec PyProof.Rows L2
section
variable {m : Nat} {st ot : List (Int × Int)}
end
end
end Zk
namespace Zk
noncomputable section
open PySem PySem.Spec PyProof.Rows L2
end
end Zk
namespace Zk
noncomputable section
open PySem PySem.Spec PyProof.Rows L2
/-- a dict m tells the sums of the pairs -/
def TabOf (m st : List (Int × Int)) : Prop := (keysI m).Nodup ∧ (∀ k, k ∈ keysI m ↔ k ∈ keysI st) ∧ (∀ k, (getI m k).getD 0 = ksum st k) ∧ m.length ≤ st.length
theorem TabOf.nil : TabOf [] [] := ⟨by simp [keysI], by simp, fun k => rfl, by simp⟩
def hkeys (st : List (Int × Int)) : List Int := srt (st.map (·.1)).eraseDups
theorem TabOf.srt {m st : List (Int × Int)} (h : TabOf m st) : Zk.srt (m.map (·.1)) = hkeys st := by
  have pm : (keysI m).Perm (st.map (·.1)).eraseDups := (List.perm_ext_iff_of_nodup h.1 (nodup_eraseDups _)).mpr fun k => by rw [List.mem_eraseDups]; exact h.2.1 k
  exact srt_perm_eq pm
theorem hkeys_mem {st : List (Int × Int)} {k : Int} : k ∈ hkeys st ↔ k ∈ st.map (·.1) := by unfold hkeys; rw [srt_mem, List.mem_eraseDups]
theorem TabOf.get {m st : List (Int × Int)} (h : TabOf m st) {k : Int} (hk : k ∈ hkeys st) : getI m k = some (ksum st k) := by
  have hk2 : k ∈ keysI m := (h.2.1 k).mpr (hkeys_mem.mp hk)
  obtain ⟨v, hv⟩ := get_some (m := m) hk2
  have := h.2.2.1 k
  rw [hv] at this ⊢
  simpa using this
/-- the same things as often -/
def Leq (a b : List Nat) : Prop := ∀ g : Nat → Int, lsum a g = lsum b g
theorem Leq.refl (a : List Nat) : Leq a a := fun _ => rfl
theorem Leq.trans {a b c : List Nat} (h : Leq a b) (h2 : Leq b c) : Leq a c := fun g => (h g).trans (h2 g)
def dbl (l : List Nat) (q : Nat) : List Nat := l ++ l.map fun r => r ^^^ q
theorem dbl_sum (l : List Nat) (q : Nat) (g : Nat → Int) : lsum (dbl l q) g = lsum l g + lsum l fun r => g (r ^^^ q) := by rw [dbl, lsum_app, lsum_map]
theorem Leq.dbl {a b : List Nat} (h : Leq a b) (q : Nat) : Leq (dbl a q) (dbl b q) := fun g => by rw [dbl_sum, dbl_sum, h, h]
theorem Leq.foldl {a b : List Nat} (h : Leq a b) (qs : List Nat) : Leq (qs.foldl Zk.dbl a) (qs.foldl Zk.dbl b) := by
  induction qs generalizing a b with
  | nil => exact h
  | cons q qs ih => exact ih (h.dbl q)
/-- a list of numbers that holds 0 and all xors, each once -/
def Sub (s : List Nat) : Prop := s.Nodup ∧ 0 ∈ s ∧ ∀ a ∈ s, ∀ b ∈ s, a ^^^ b ∈ s
theorem xor_cancel (a b : Nat) : a ^^^ b ^^^ b = a := by rw [Nat.xor_assoc, Nat.xor_self, Nat.xor_zero]
theorem xor_inj {a b q : Nat} (h : a ^^^ q = b ^^^ q) : a = b := by rw [← xor_cancel a q, h, xor_cancel]
theorem nodup_mapx {s : List Nat} (h : s.Nodup) (q : Nat) : (s.map fun r => r ^^^ q).Nodup := List.pairwise_map.mpr (h.imp fun {a b} hab e => hab (xor_inj e))
def spnS (s : List Nat) (q : Nat) : List Nat := if q ∈ s then s else dbl s q
theorem Sub.step {s : List Nat} (h : Sub s) (q : Nat) : Sub (spnS s q) := by
  unfold spnS
  split
  · exact h
  · rename_i hq
    refine ⟨?_, ?_, ?_⟩
    · unfold dbl
      rw [List.nodup_append]
      refine ⟨h.1, nodup_mapx h.1 q, fun a ha b hb e => ?_⟩
      obtain ⟨r, hr, rfl⟩ := List.mem_map.mp hb
      subst e
      have := h.2.2 _ ha _ hr
      rw [Nat.xor_comm r q, Nat.xor_assoc, Nat.xor_self, Nat.xor_zero] at this
      exact hq this
    · exact List.mem_append.mpr (.inl h.2.1)
    · intro a ha b hb
      unfold dbl at ha hb ⊢
      have key : ∀ x y, x ^^^ q ^^^ (y ^^^ q) = x ^^^ y := fun x y => by rw [Nat.xor_comm y q, ← Nat.xor_assoc, xor_cancel]
      rcases List.mem_append.mp ha with ha | ha <;> rcases List.mem_append.mp hb with hb | hb
      · exact List.mem_append.mpr (.inl (h.2.2 a ha b hb))
      · obtain ⟨r, hr, rfl⟩ := List.mem_map.mp hb
        exact List.mem_append.mpr (.inr (List.mem_map.mpr ⟨a ^^^ r, h.2.2 a ha r hr, Nat.xor_assoc a r q⟩))
      · obtain ⟨r, hr, rfl⟩ := List.mem_map.mp ha
        exact List.mem_append.mpr (.inr (List.mem_map.mpr ⟨r ^^^ b, h.2.2 r hr b hb, by show r ^^^ b ^^^ q = r ^^^ q ^^^ b; rw [Nat.xor_assoc, Nat.xor_comm b q, Nat.xor_assoc]⟩))
      · obtain ⟨r, hr, rfl⟩ := List.mem_map.mp ha
        obtain ⟨t, ht, rfl⟩ := List.mem_map.mp hb
        show r ^^^ q ^^^ (t ^^^ q) ∈ _
        rw [key]
        exact List.mem_append.mpr (.inl (h.2.2 r hr t ht))
theorem sub_zero : Sub [0] := ⟨by simp, by simp, by simp⟩
end
end Zk
namespace Zk
noncomputable section
open PySem PySem.Spec PyProof.Rows L2
theorem gInA_nats (neg : Bool) (q : Nat) (l : List Nat) : gInA neg [.int (q : Int), .lst (l.map iN)] = some (.bl (decide (q ∈ l) ^^ neg), 9) := by
  have e : l.map iN = (l.map fun c : Nat => (c : Int)).map D.int := by rw [List.map_map]; rfl
  rw [e, gInA_ints]
  have : ((q : Int) ∈ l.map fun c : Nat => (c : Int)) ↔ q ∈ l := by
    constructor
    · intro h
      obtain ⟨c, hc, e⟩ := List.mem_map.mp h
      have : c = q := by omega
      exact this ▸ hc
    · intro h
      exact List.mem_map.mpr ⟨q, h, rfl⟩
  simp only [this]
section
variable {m : Nat} {st ot : List (Int × Int)}
end
end
end Zk
namespace Zk
noncomputable section
open PySem PySem.Spec PyProof.Rows L2
end
end Zk
namespace Zk
noncomputable section
open PySem PySem.Spec PyProof.Rows L2
end
end Zk
namespace Zk
noncomputable section
open PySem PySem.Spec PyProof.Rows L2
end
end Zk
namespace Zk
noncomputable section
open PySem PySem.Spec PyProof.Rows L2
section
variable {size : Int} {m : Nat} {c : Nat → Nat → Int} {ps : List (Nat × Nat)}
end
end
end Zk
namespace Zk
noncomputable section
open PySem PySem.Spec PyProof.Rows L2
section
variable {m : Nat} {st ot : List (Int × Int)}
end
end
end Zk
namespace Zk
noncomputable section
open PySem PySem.Spec PyProof.Rows L2
section
variable {m : Nat} {st ot : List (Int × Int)}
end
end
end Zk
namespace Zk
noncomputable section
open PySem PySem.Spec PyProof.Rows L2
end
end Zk
namespace Zk
noncomputable section
open PySem PySem.Spec PyProof.Rows L2
section
variable {p m w : Nat} {st : List (Int × Int)} {Tb : Nat → List (List Nat)}
end
end
end Zk
namespace Zk
open PySem PySem.Spec PyProof.Rows L2
/-- slots that may hold anything -/
def AllU : List Nat → (Ev → Prop) → Ev → Prop
  | [], P, E => P E
  | i :: is, P, E => ∀ v : Option (D × Nat), AllU is P (E.set i v)
def sets : List (Nat × Option (D × Nat)) → Ev → Ev
  | [], E => E
  | p :: r, E => sets r (E.set p.1 p.2)
def ExU : List Nat → (Ev → Prop) → Ev → Prop
  | [], P, E => P E
  | i :: is, P, E => ∃ v : Option (D × Nat), ExU is P (E.set i v)
theorem ex_all {P R : Ev → Prop} : ∀ {ws : List Nat} {E : Ev}, AllU ws P E → ExU ws R E → ∃ E1, P E1 ∧ R E1
  | [], E, h, r => ⟨E, h, r⟩
  | _ :: _, _, h, ⟨v, r⟩ => ex_all (h v) r
theorem all_of {P : Ev → Prop} : ∀ {ws : List Nat} {E : Ev}, (∀ E1, ExU ws (fun E => E = E1) E → P E1) → AllU ws P E
  | [], E, h => h E rfl
  | _ :: _, _, h => fun v => all_of fun E1 x => h E1 ⟨v, x⟩
theorem set_ex {E : Ev} {i : Nat} : ∃ v, E.set i v = E := by
  by_cases h : i < E.length
  · exact ⟨E[i], by simp⟩
  · exact ⟨none, List.set_eq_of_length_le (by omega)⟩
theorem ex_refl : ∀ (ws : List Nat) (E : Ev), ExU ws (fun E' => E' = E) E
  | [], E => rfl
  | i :: ws, E => by
    obtain ⟨v, e⟩ := set_ex (E := E) (i := i)
    refine ⟨v, ?_⟩
    rw [e]
    exact ex_refl ws E
theorem W_seqK {s t : Fs} {E : Ev} {Q : Fl × Ev → Prop} (h : ∀ K : Ev → Prop, (∀ E1, W (t E1) Q → K E1) → W (s E) fun p => p.1 = .nx ∧ K p.2) : W (mSeq s t E) Q :=
  W_seqJ (fun E => W (t E) Q) (h _ fun _ h => h) fun _ h => h
theorem W_end {s : Fs} {E : Ev} {Q : Fl × Ev → Prop} (h : W (mSeq s mNx E) Q) : W (s E) Q := by
  rw [W_seq] at h
  refine h.mono fun p hp => ?_
  obtain ⟨fl, E1⟩ := p
  cases fl with
  | nx => exact W_nx.mp hp
  | _ => exact hp
@[simp] theorem imms_mapS {α : Type} {f : α → D} {xs : List α} (h : ∀ x, imm (f x) = true) : imms (xs.map f) = true := imms_map' h xs
@[simp] theorem upl_immS {n m : Nat} {d e : D} (h : imm e = true) : upl n d e m = n := upl_imm h
@[simp] theorem atI_z {α : Type} {x : α} {l : List α} : atI (x :: l) 0 = some x := by
  unfold atI
  rw [ixN_ok (by decide) (by simp)]; rfl
theorem atI_s {α : Type} {x : α} {l : List α} {i : Int} (h : 0 < i) : atI (x :: l) i = if i ≤ l.length then l[(i - 1).toNat]? else atI (x :: l) i := by
  split
  · unfold atI
    rw [ixN_ok (by omega) (by simp; omega), Option.bind_some]
    obtain ⟨j, rfl⟩ : ∃ j : Nat, i = ((j + 1 : Nat) : Int) := ⟨(i - 1).toNat, by omega⟩
    rw [Int.toNat_natCast, List.getElem?_cons_succ]
    congr 1
    omega
  · rfl
@[simp] theorem atI_1 {α : Type} {x y : α} {l : List α} : atI (x :: y :: l) 1 = some y := by
  rw [atI_s (by decide), if_pos (by simp; omega)]; rfl
@[simp] theorem atI_2 {α : Type} {x y z : α} {l : List α} : atI (x :: y :: z :: l) 2 = some z := by
  rw [atI_s (by decide), if_pos (by simp; omega)]; rfl
@[simp] theorem atI_3 {α : Type} {x y z w : α} {l : List α} : atI (x :: y :: z :: w :: l) 3 = some w := by
  rw [atI_s (by decide), if_pos (by simp; omega)]; rfl
@[simp] theorem seqD_tI (xs : List Int) : seqD (tI xs) = some (xs.map D.int) := rfl
theorem dvN (s : List Int) (n : Int) (h : 0 < n) : ∃ v : Nat, dv s n = (v : Int) ∧ (v : Int) < n := by
  refine ⟨(dv s n).toNat, ?_, ?_⟩
  · have := dv_nn (s := s) h; omega
  · have := dv_lt (s := s) h; have := dv_nn (s := s) h; omega
def StpG (I' : Ev → Prop) (X : Fl × Ev → Prop) (q : Fl × Ev) : Prop := match q.1 with
  | .nx => I' q.2 | .ct => I' q.2 | .bk => X (.nx, q.2) | .rt d n => X (.rt d n, q.2)
section
variable {I' : Ev → Prop} {X : Fl × Ev → Prop} {E : Ev} {d : D} {n : Nat}
@[simp ↓] theorem StpG_nx : StpG I' X (.nx, E) ↔ I' E := Iff.rfl
@[simp ↓] theorem StpG_ct : StpG I' X (.ct, E) ↔ I' E := Iff.rfl
@[simp ↓] theorem StpG_bk : StpG I' X (.bk, E) ↔ X (.nx, E) := Iff.rfl
@[simp ↓] theorem StpG_rt : StpG I' X (.rt d n, E) ↔ X (.rt d n, E) := Iff.rfl
end
section
variable {it : Fi} {g : Fg} {body rest : Fs} {E : Ev} {Q : Fl × Ev → Prop}
theorem W_forSx {α γ : Type} (E1 : Ev) (xs : List α) (ι : α → D) (ws : List Nat) (S : γ → List α → List (Nat × Option (D × Nat))) (P : γ → List α → Prop) (c0 : γ)
    (hi : W (it E) fun p => p.1 = xs.map ι ∧ p.2 = E1) (hE : sets (S c0 []) E1 = E1) (h0 : P c0 [])
    (st : ∀ (X : Fl × Ev → Prop), (∀ E, W (rest E) Q → X (.nx, E)) → (∀ d n E, Q (.rt d n, E) → X (.rt d n, E)) → ∀ (c : γ) (a : List α) (x : α) (b : List α) (I' : Ev → Prop), xs = a ++ x :: b → P c a → (∀ c', P c' (a ++ [x]) → AllU ws I' (sets (S c' (a ++ [x])) E1)) →
      AllU ws (fun E => W (g (ι x) E) fun E2 => W (body E2) (StpG I' X)) (sets (S c a) E1))
    (fin : ∀ c, P c xs → AllU ws (fun E => W (rest E) Q) (sets (S c xs) E1)) : W (mSeq (mFor it g body) rest E) Q := by
  let X : Fl × Ev → Prop := fun q => (match q.1 with | .nx => W (rest q.2) Q | fl => Q (fl, q.2))
  have go : W (mFor it g body E) X := by
    rw [W_for]
    refine hi.mono fun p hp => ?_
    obtain ⟨its, E'⟩ := p
    obtain ⟨e1, e2⟩ := hp
    simp only at e1 e2
    subst e1 e2
    refine W_forX (I := fun a E => ∃ c, P c a ∧ ExU ws (fun E2 => E2 = E) (sets (S c a) E')) ⟨c0, h0, ?_⟩ (fun a x b E' e hI => ?_) fun E hI => ?_
    · rw [hE]; exact ex_refl ws _
    · obtain ⟨c, hc, hx⟩ := hI
      obtain ⟨E3, w, rfl⟩ := ex_all (st X (fun _ h => h) (fun _ _ _ h => h) c a x b (fun E => ∃ c', P c' (a ++ [x]) ∧ ExU ws (fun E2 => E2 = E) (sets (S c' (a ++ [x])) _)) e hc fun c' h' => all_of fun E1 h => ⟨c', h', h⟩) hx
      exact w
    · obtain ⟨c, hc, hx⟩ := hI
      obtain ⟨E3, w, rfl⟩ := ex_all (fin c hc) hx
      exact w
  rw [W_seq]
  refine go.mono fun p hp => ?_
  obtain ⟨fl, E2⟩ := p
  exact hp
/-- without break or return -/
theorem W_forS {α γ : Type} (E1 : Ev) (xs : List α) (ι : α → D) (ws : List Nat) (S : γ → List α → List (Nat × Option (D × Nat))) (P : γ → List α → Prop) (c0 : γ)
    (hi : W (it E) fun p => p.1 = xs.map ι ∧ p.2 = E1) (hE : sets (S c0 []) E1 = E1) (h0 : P c0 [])
    (st : ∀ (c : γ) (a : List α) (x : α) (b : List α) (I' : Ev → Prop), xs = a ++ x :: b → P c a → (∀ c', P c' (a ++ [x]) → AllU ws I' (sets (S c' (a ++ [x])) E1)) →
      AllU ws (fun E => W (g (ι x) E) fun E2 => W (body E2) (StpG I' fun _ => False)) (sets (S c a) E1))
    (fin : ∀ c, P c xs → AllU ws (fun E => W (rest E) Q) (sets (S c xs) E1)) : W (mSeq (mFor it g body) rest E) Q := by
  refine W_forSx E1 xs ι ws S P c0 hi hE h0 (fun X h1 h2 c a x b I' e hc hI => ?_) fin
  refine all_of fun E3 hx => ?_
  obtain ⟨E4, w, rfl⟩ := ex_all (st c a x b I' e hc hI) hx
  refine w.mono fun E2 w2 => w2.mono fun q hq => ?_
  obtain ⟨fl, E5⟩ := q
  cases fl <;> first | exact hq | exact hq.elim
/-- over a range from 0 -/
theorem W_forNx {γ : Type} (E1 : Ev) (n : Nat) (ws : List Nat) (S : γ → Nat → List (Nat × Option (D × Nat))) (P : γ → Nat → Prop) (c0 : γ)
    (hi : W (it E) fun p => p.1 = rng 0 n ∧ p.2 = E1) (hE : sets (S c0 0) E1 = E1) (h0 : P c0 0)
    (st : ∀ (X : Fl × Ev → Prop), (∀ E, W (rest E) Q → X (.nx, E)) → (∀ d n E, Q (.rt d n, E) → X (.rt d n, E)) → ∀ (c : γ) (k : Nat) (I' : Ev → Prop), k < n → P c k → (∀ c', P c' (k + 1) → AllU ws I' (sets (S c' (k + 1)) E1)) →
      AllU ws (fun E => W (g (.int (k : Int)) E) fun E2 => W (body E2) (StpG I' X)) (sets (S c k) E1))
    (fin : ∀ c, P c n → AllU ws (fun E => W (rest E) Q) (sets (S c n) E1)) : W (mSeq (mFor it g body) rest E) Q := by
  refine W_forSx E1 (List.range n) (fun k : Nat => D.int (k : Int)) ws (fun c a => S c a.length) (fun c a => P c a.length) c0 (by rw [← rng0]; exact hi) hE h0 (fun X h1 h2 c a x b I' e hc hI => ?_) (by simpa using fin)
  have hx : x = a.length := by
    have h := congrArg (fun l => l[a.length]?) e
    simp only [List.getElem?_append_right (Nat.le_refl _), Nat.sub_self, List.getElem?_cons_zero] at h
    have hl : a.length < n := by
      have := congrArg List.length e
      simp at this
      omega
    rw [List.getElem?_range hl] at h
    simpa using h.symm
  have hl : a.length < n := by
    have := congrArg List.length e
    simp at this
    omega
  subst hx
  simp only [List.length_append, List.length_singleton] at hI
  exact st X h1 h2 c a.length I' hl hc hI
theorem W_forN {γ : Type} (E1 : Ev) (n : Nat) (ws : List Nat) (S : γ → Nat → List (Nat × Option (D × Nat))) (P : γ → Nat → Prop) (c0 : γ)
    (hi : W (it E) fun p => p.1 = rng 0 n ∧ p.2 = E1) (hE : sets (S c0 0) E1 = E1) (h0 : P c0 0)
    (st : ∀ (c : γ) (k : Nat) (I' : Ev → Prop), k < n → P c k → (∀ c', P c' (k + 1) → AllU ws I' (sets (S c' (k + 1)) E1)) →
      AllU ws (fun E => W (g (.int (k : Int)) E) fun E2 => W (body E2) (StpG I' fun _ => False)) (sets (S c k) E1))
    (fin : ∀ c, P c n → AllU ws (fun E => W (rest E) Q) (sets (S c n) E1)) : W (mSeq (mFor it g body) rest E) Q := by
  refine W_forNx E1 n ws S P c0 hi hE h0 (fun X h1 h2 c k I' e hc hI => ?_) fin
  refine all_of fun E3 hx => ?_
  obtain ⟨E4, w, rfl⟩ := ex_all (st c k I' e hc hI) hx
  refine w.mono fun E2 w2 => w2.mono fun q hq => ?_
  obtain ⟨fl, E5⟩ := q
  cases fl <;> first | exact hq | exact hq.elim
end
end Zk
namespace Zk
open PySem PySem.Spec PyProof.Rows L2
section
variable {K : PySem.W.Frag}
variable {X : Cx} {a : Expr} {fe : Fe} {p pos kpos q1 : PySem.Pos} {j : Nat}
end
end Zk
namespace Zk
open PySem PySem.Spec PyProof.Rows L2
variable {X : Cx}
section
variable {K : PySem.W.Frag} {Z Z' Zf Z0 Z1 Z2 : Addr → Prop} {H H' H0 H1 H2 : Hp} {σ σ' : L2.St} {E E' E1 EF : Ev} {R R' R0 R1 R2 Rw : Rs} {D0 : Addr}
theorem tk_int {o : Op} {k : Int} {n : Nat} (h : tk E o = some (.int k, n, E')) : rd E o = some (.int k) ∧ E' = E := by
  cases o with
  | val d m =>
    simp only [tk, Option.some.injEq, Prod.mk.injEq] at h
    obtain ⟨rfl, _, rfl⟩ := h
    exact ⟨rfl, rfl⟩
  | slot i =>
    simp only [tk] at h
    cases e : eg E i with
    | none => rw [e] at h; cases h
    | some p =>
      obtain ⟨d, m⟩ := p
      rw [e] at h
      simp only at h
      split at h
      · simp only [Option.some.injEq, Prod.mk.injEq] at h
        obtain ⟨rfl, _, rfl⟩ := h
        exact ⟨by simp [rd, e], rfl⟩
      · rename_i hi
        simp only [Option.some.injEq, Prod.mk.injEq] at h
        obtain ⟨rfl, _⟩ := h
        simp at hi
/-- what is known of the growing set -/
structure SetG (wd : World) (Z1 : Addr → Prop) (H1 : Hp) (Rw : Rs) (D0 : Addr) (Z2 : Addr → Prop) (H2 : Hp) (R2 : Rs) (acc : List (D × Nat)) : Prop where
  t : Step Z1 H1 (ow Rw) Z2 H2 (ow R2)
  z : ¬ Z2 D0
  o : ¬ ow R2 D0
  h : ∃ S n, H2 D0 = some (SetO wd D0 S n) ∧ n ≤ acc.length ∧ ∀ j, S j = true ↔ D.int j ∈ acc.map (·.1)
theorem SetG.keep {wd : World} {Z6 : Addr → Prop} {H6 : Hp} {R6 : Rs} {acc : List (D × Nat)} (G : SetG wd Z1 H1 Rw D0 Z2 H2 R2 acc) (t : Step Z2 H2 (ow R2) Z6 H6 (ow R6)) : SetG wd Z1 H1 Rw D0 Z6 H6 R6 acc := by
  obtain ⟨S, n, e, hn, hs⟩ := G.h
  refine ⟨G.t.trans t, fun z => ?_, fun z => ?_, S, n, t.hh D0 _ e G.o, hn, hs⟩
  · rcases t.zn D0 z with z | z | z
    · exact G.z z
    · rw [e] at z; cases z
    · exact G.o z
  · rcases t.on D0 z with z | z
    · exact G.o z
    · rw [e] at z; cases z
theorem SetG.add {wd : World} {acc : List (D × Nat)} {k : Int} {m : Nat} (hD : H1 D0 = none) (G : SetG wd Z1 H1 Rw D0 Z2 H2 R2 acc) (s2 : S K Z2 H2 σ E R2) {S : Int → Bool} {n : Nat} (e : H2 D0 = some (SetO wd D0 S n)) (hn : n ≤ acc.length) (hs : ∀ j, S j = true ↔ D.int j ∈ acc.map (·.1)) :
    Zk.S K Z2 (upd H2 D0 (SetO wd D0 (fun j => S j || decide (j = k)) (if S k = true then n else n + 1))) σ E R2 ∧ SetG wd Z1 H1 Rw D0 Z2 (upd H2 D0 (SetO wd D0 (fun j => S j || decide (j = k)) (if S k = true then n else n + 1))) R2 (acc ++ [(.int k, m)]) := by
  obtain ⟨s8, p8⟩ := s2.free (o' := SetO wd D0 (fun j => S j || decide (j = k)) (if S k = true then n else n + 1)) e trivial G.o G.z
  refine ⟨s8, ⟨G.t.zz, G.t.zn, fun a o ho h => ?_, G.t.on, fun a h e2 => ?_⟩, G.z, G.o, _, _, upd_same, ?_, fun j => ?_⟩
  · have ne : a ≠ D0 := fun e => by rw [e, hD] at ho; cases ho
    rw [upd_ne ne]; exact G.t.hh a o ho h
  · by_cases ca : a = D0
    · rw [ca, upd_same] at e2; cases e2
    · rw [upd_ne ca] at e2; exact G.t.dm a h e2
  · rw [List.length_append, List.length_singleton]
    split <;> omega
  · rw [Bool.or_eq_true, hs, List.map_append, List.mem_append]
    simp
end
section
variable {X : Cx} {elt tg iter : Expr} {ifs : List Expr} {fe : Fe} {ft : Ft} {fi : Fi} {g : Fg} {scope : Scope} {pos pos1 p : PySem.Pos} {w : List Nat} {own : List (PySem.Str × Nat)}
end
end Zk
namespace Zk
open PySem PySem.Spec PyProof.Rows L2
section
variable {g : Fg} {c : Ft} {f : Fe} {is : List Nat} {Q : List (D × Nat) × Ev → Prop}
/-- a statement whose ends differ in few slots -/
theorem W_seqS {γ : Type} {s t : Fs} {E : Ev} {Q : Fl × Ev → Prop} (S : γ → List (Nat × Option (D × Nat))) (P : γ → Prop) (h : ∀ K : Ev → Prop, (∀ c, P c → K (sets (S c) E)) → W (s E) fun p => p.1 = .nx ∧ K p.2) (k : ∀ c, P c → W (t (sets (S c) E)) Q) : W (mSeq s t E) Q :=
  W_seqJ (fun E' => ∃ c, P c ∧ E' = sets (S c) E) (h (fun E' => ∃ c, P c ∧ E' = sets (S c) E) fun c hc => ⟨c, hc, rfl⟩) fun _ ⟨c, hc, e⟩ => e ▸ k c hc
end
end Zk
namespace Zk
open PySem PySem.Spec PyProof.Rows L2
section
variable {K : PySem.W.Frag} {X : Cx}
end
end Zk
namespace Zk
open PySem PySem.Spec PyProof.Rows L2
section
variable {it : Fi} {g : Fg} {body rest : Fs} {E : Ev} {Q : Fl × Ev → Prop}
theorem W_forQx {γ : Type} (E1 : Ev) (n : Nat) (ι : Nat → D) (ws : List Nat) (S : γ → Nat → List (Nat × Option (D × Nat))) (P : γ → Nat → Prop) (c0 : γ)
    (hi : W (it E) fun p => p.1 = (List.range n).map ι ∧ p.2 = E1) (hE : sets (S c0 0) E1 = E1) (h0 : P c0 0)
    (st : ∀ (X : Fl × Ev → Prop), (∀ E, W (rest E) Q → X (.nx, E)) → (∀ d n E, Q (.rt d n, E) → X (.rt d n, E)) → ∀ (c : γ) (k : Nat) (I' : Ev → Prop), k < n → P c k → (∀ c', P c' (k + 1) → AllU ws I' (sets (S c' (k + 1)) E1)) →
      AllU ws (fun E => W (g (ι k) E) fun E2 => W (body E2) (StpG I' X)) (sets (S c k) E1))
    (fin : ∀ c, P c n → AllU ws (fun E => W (rest E) Q) (sets (S c n) E1)) : W (mSeq (mFor it g body) rest E) Q := by
  refine W_forSx E1 (List.range n) ι ws (fun c a => S c a.length) (fun c a => P c a.length) c0 hi hE h0 (fun X h1 h2 c a x b I' e hc hI => ?_) (by simpa using fin)
  have hl : a.length < n := by
    have := congrArg List.length e
    simp at this
    omega
  have hx : x = a.length := by
    have h := congrArg (fun l => l[a.length]?) e
    simp only [List.getElem?_append_right (Nat.le_refl _), Nat.sub_self, List.getElem?_cons_zero] at h
    rw [List.getElem?_range hl] at h
    simpa using h.symm
  subst hx
  simp only [List.length_append, List.length_singleton] at hI
  exact st X h1 h2 c a.length I' hl hc hI
theorem W_forQ {γ : Type} (E1 : Ev) (n : Nat) (ι : Nat → D) (ws : List Nat) (S : γ → Nat → List (Nat × Option (D × Nat))) (P : γ → Nat → Prop) (c0 : γ)
    (hi : W (it E) fun p => p.1 = (List.range n).map ι ∧ p.2 = E1) (hE : sets (S c0 0) E1 = E1) (h0 : P c0 0)
    (st : ∀ (c : γ) (k : Nat) (I' : Ev → Prop), k < n → P c k → (∀ c', P c' (k + 1) → AllU ws I' (sets (S c' (k + 1)) E1)) →
      AllU ws (fun E => W (g (ι k) E) fun E2 => W (body E2) (StpG I' fun _ => False)) (sets (S c k) E1))
    (fin : ∀ c, P c n → AllU ws (fun E => W (rest E) Q) (sets (S c n) E1)) : W (mSeq (mFor it g body) rest E) Q := by
  refine W_forQx E1 n ι ws S P c0 hi hE h0 (fun X h1 h2 c k I' e hc hI => ?_) fin
  refine all_of fun E3 hx => ?_
  obtain ⟨E4, w, rfl⟩ := ex_all (st c k I' e hc hI) hx
  refine w.mono fun E2 w2 => w2.mono fun q hq => ?_
  obtain ⟨fl, E5⟩ := q
  cases fl <;> first | exact hq | exact hq.elim
end
theorem W_ifT {ft : Ft} {s t : Fs} {E E1 : Ev} {Q : Fl × Ev → Prop} (h : W (ft E) fun p => p.1 = true ∧ p.2 = E1) (k : W (s E1) Q) : W (mIfS ft s t E) Q := by
  rw [W_ifS]
  refine h.mono fun p hp => ?_
  obtain ⟨b, E2⟩ := p
  obtain ⟨rfl, rfl⟩ := hp
  exact IfB_t.mpr k
/-- enumerate over a row told by places -/
theorem enD_range (f : Nat → D) (n : Nat) : enD 0 ((List.range n).map f) = (List.range n).map fun i : Nat => D.tup [.int (i : Int), f i] := by
  refine List.ext_getElem? fun i => ?_
  rw [enD_get]
  by_cases c : i < n
  · simp [c]
  · simp [c]
end Zk
namespace Zk
open PySem PySem.Spec PyProof.Rows L2
section
variable {K : PySem.W.Frag} {X : Cx} {a b : Expr} {fa fb : Fe} {pos : PySem.Pos}
end
end Zk
namespace Zk
open PySem PySem.Spec PyProof.Rows L2
section
variable {prg : Program} {wd : World} {Ar : Around} {EE : Value → Shared → Prop} {sh : Shared}
end
section
variable {X : Cx} {a : Expr} {ta : TE} {p p2 q pos : PySem.Pos}
end
section
variable {K : PySem.W.Frag}
variable {X : Cx} {a : Expr} {fa : Fe} {p p2 q pos : PySem.Pos}
end
end Zk
namespace Zk
open PySem PySem.Spec PyProof.Rows L2
section
variable {X : Cx} {e : Expr} {te : TE} {p apos cpos pos : PySem.Pos}
end
section
variable {K : PySem.W.Frag}
variable {X : Cx} {e : Expr} {fe : Fe} {p apos cpos pos : PySem.Pos}
end
end Zk
namespace Zk
open PySem PySem.Spec PyProof.Rows L2
section
variable {K : PySem.W.Frag} {Z : Addr → Prop} {H : Hp} {a : Addr} {kvs : List (Key × V)} {od : Obj}
variable {σ : L2.St} {E : Ev} {R : Rs}
theorem Rp.key (k : Key) : Rp K Z H (kV k) (kD k) := by
  cases k with
  | inl i => exact .int i
  | inr x => exact .str x
theorem KR.at {κ : Type} {kvs : List (κ × V)} {kds : List (κ × D)} {H : Hp} {Z : Addr → Prop} (e : kvs.map (·.1) = kds.map (·.1)) (r : Rps K Z H (kvs.map (·.2)) (kds.map (·.2))) {i : Nat} {k : κ} {v : V} (h : kvs[i]? = some (k, v)) : ∃ d, kds[i]? = some (k, d) ∧ Rp K Z H v d := by
  have h1 : (kvs.map (·.2))[i]? = some v := by rw [List.getElem?_map, h]; rfl
  have h2 : (kvs.map (·.1))[i]? = some k := by rw [List.getElem?_map, h]; rfl
  obtain ⟨d, h3, h4⟩ := r.get h1
  rw [e, List.getElem?_map] at h2
  rw [List.getElem?_map] at h3
  cases hq : kds[i]? with
  | none => rw [hq] at h2; cases h2
  | some p =>
    rw [hq] at h2 h3
    cases h2
    cases h3
    exact ⟨p.2, rfl, h4⟩
end
end Zk
namespace Zk
open PySem PySem.Spec PyProof.Rows L2
section
variable {X : Cx} {kx vx elt : Expr} {elts : List Expr} {kk : Nat} {tpos px apos cpos : PySem.Pos} {x : PySem.Str} {ifs : List Expr} {fk fv fe : Fe} {ft : Ft} {g : Fg} {scope : Scope} {pos : PySem.Pos} {w w1 w2 : List Nat} {own : List (PySem.Str × Nat)} {body : List Stmt} {f : Fs}
end
section
variable {E : Ev} {j : Nat} {Qe : Op × Ev → Prop} {Qs : Fl × Ev → Prop} {Qi : List D × Ev → Prop} {its : List D}
end
end Zk
namespace Zk
open PySem PySem.Spec PyProof.Rows L2
section
variable {K : PySem.W.Frag} {Z : Addr → Prop} {H H2 : Hp} {a : Addr} {kvs : List (Key × V)} {od : Obj}
variable {σ : L2.St} {E : Ev} {R : Rs}
end
end Zk
namespace Zk
open PySem PySem.Spec PyProof.Rows L2
section
variable {X : Cx} {tg iter kx vx elt : Expr} {elts : List Expr} {kk : Nat} {tpos px apos cpos : PySem.Pos} {x : PySem.Str} {ifs : List Expr} {fk fv fe : Fe} {ft : Ft} {g : Fg} {scope : Scope} {pos : PySem.Pos} {w w1 w2 : List Nat} {own : List (PySem.Str × Nat)} {body : List Stmt} {f : Fs} {wi : TE → TI} {its : List (Key × D) → List D}
end
section
variable {E : Ev} {j : Nat} {Qe : Op × Ev → Prop} {Qs : Fl × Ev → Prop} {Qi : List D × Ev → Prop} {its : List (Key × D) → List D}
end
end Zk
namespace Zk
open PySem PySem.Spec PyProof.Rows L2
section
variable {K : PySem.W.Frag} {X : Cx}
end
end Zk
namespace Zk
open PySem PySem.Spec PyProof.Rows L2
section
variable {X : Cx}
end
section
variable {K : PySem.W.Frag}
variable {X : Cx} {a b : Expr} {fa fb : Fe} {apos cpos : PySem.Pos}
end
end Zk
namespace Zk
open PySem PySem.Spec PyProof.Rows L2
def dropD {κ : Type} [DecidableEq κ] (kvs : List (κ × D)) (k : κ) : List (κ × D) := kvs.filter fun kv => decide (kv.1 ≠ k)
section
variable {K : PySem.W.Frag} {Z Z' Z0 : Addr → Prop} {H H' H0 : Hp} {σ : L2.St} {E E' : Ev} {R R0 : Nat → List Addr}
theorem KR.drop {κ : Type} [DecidableEq κ] (k : κ) : ∀ {kvs : List (κ × V)} {kds : List (κ × D)}, KR K Z H kvs kds → KR K Z H (dropK kvs k) (dropD kds k) := by
  intro kvs
  induction kvs with
  | nil =>
    intro kds h
    rcases h.cases with ⟨_, rfl⟩ | ⟨_, _, _, _, _, e, _⟩
    · exact .nil
    · cases e
  | cons p r ih =>
    intro kds h
    rcases h.cases with ⟨e, _⟩ | ⟨k', v', d', r', s, e, rfl, h1, h2⟩
    · cases e
    · cases e
      have := ih h2
      unfold dropK dropD at this ⊢
      rw [List.filter_cons, List.filter_cons]
      by_cases c : k' = k
      · rw [if_neg (by simp [c]), if_neg (by simp [c])]; exact this
      · rw [if_pos (by simp [c]), if_pos (by simp [c])]; exact .cons h1 this
end
section
variable {X : Cx} {e : Expr} {fk : Fe} {pos : PySem.Pos}
end
section
variable {E : Ev} {fk : Fe} {j : Nat} {Qs : Fl × Ev → Prop}
end
end Zk
namespace Zk
open PySem PySem.Spec PyProof.Rows L2
section
variable {X : Cx} {K : PySem.W.Frag}
theorem vals_back : ∀ {xs : List V} {us : List Value} {i : Nat} {u : Value}, Vals xs us → us[i]? = some u → ∃ x, xs[i]? = some x ∧ RelV x u
  | _, _, _, _, .nil, e => by simp at e
  | _, _, 0, _, .cons r t, e => ⟨_, rfl, by simp at e; rw [← e]; exact r⟩
  | _, _, i + 1, _, .cons r t, e => by
    obtain ⟨x, h1, h2⟩ := vals_back (i := i) t (by simpa using e)
    exact ⟨x, by simpa using h1, h2⟩
end
end Zk
namespace Zk
open PySem PySem.Spec PyProof.Rows L2
section
variable {β : Type} {f : β → D}
end
end Zk
namespace Zk
open PySem PySem.Spec PyProof.Rows L2
section
variable {prog : Program} {w : World} {A : Around} {R : Result → Shared → Prop} {s : Shared} {elt t0 i0 t1 i1 : Expr} {ifs0 ifs1 : List Expr} {scope : Scope} {pos : PySem.Pos} {it acc : Value} {env : Env}
end

section
variable {K : PySem.W.Frag} {Z Z' Zf Z0 Z1 Z2 : Addr → Prop} {H H' H0 H1 H2 : Hp} {σ σ' : L2.St} {E E' E1 EF : Ev} {R R' R0 R1 R2 Rw : Rs} {D0 : Addr}
end
section
variable {X : Cx} {elt tg iter tg1 iter1 : Expr} {ifs ifs1 : List Expr} {fe : Fe} {ft ft1 : Ft} {fi fi1 : Fi} {g g1 : Fg} {scope : Scope} {pos pos1 p : PySem.Pos} {w w1 : List Nat} {own : List (PySem.Str × Nat)} {vs1 : List Nat}
end
end Zk
namespace Zk.FC
open PySem PySem.F
theorem slot_comb_next : Slot "itertools.combinations" "__next__" "itertools.combinations.__next__" :=
  .of (owner := "itertools.combinations") (n := "__next__") (by rw [typeLookup_type, builtinLookup_eq_fast]; kernel_rfl) (by decide +kernel) (by decide +kernel) (by decide +kernel)
    (by first | exact .inl (by decide +kernel) | exact .inr (by decide +kernel)) (by rw [isSubtype_type]; kernel_rfl)
theorem slot_comb_iter : Slot "itertools.combinations" "__iter__" "itertools.combinations.__iter__" :=
  .of (owner := "itertools.combinations") (n := "__iter__") (by rw [typeLookup_type, builtinLookup_eq_fast]; kernel_rfl) (by decide +kernel) (by decide +kernel) (by decide +kernel)
    (by first | exact .inl (by decide +kernel) | exact .inr (by decide +kernel)) (by rw [isSubtype_type]; kernel_rfl)
theorem slot_comb_init : Slot "itertools.combinations" "__init__" "object.__init__" :=
  .of (owner := "object") (n := "__init__") (by rw [typeLookup_type, builtinLookup_eq_fast]; kernel_rfl) (by decide +kernel) (by decide +kernel) (by decide +kernel)
    (by first | exact .inl (by decide +kernel) | exact .inr (by decide +kernel)) (by rw [isSubtype_type]; kernel_rfl)
theorem owner_comb : Manifest.owners.lookup (String.ofList ['s', 'n', 'o', 'i', 't', 'a', 'n', 'i', 'b', 'm', 'o', 'c', '.', 's', 'l', 'o', 'o', 't', 'r', 'e', 't', 'i'].reverse) = some Manifest.sig_itertools_combinations := by kernel_rfl
theorem args_comb_next_1 (a : Value) : argsOk "itertools.combinations.__next__" ⟨[a], []⟩ := by
  unfold argsOk; rw [signature?_of (id := "itertools.combinations.__next__") (n := ['_', '_', 't', 'x', 'e', 'n', '_', '_']) (o := ['s', 'n', 'o', 'i', 't', 'a', 'n', 'i', 'b', 'm', 'o', 'c', '.', 's', 'l', 'o', 'o', 't', 'r', 'e', 't', 'i']) (by kernel_rfl) owner_comb]; kernel_rfl
theorem args_comb_iter_1 (a : Value) : argsOk "itertools.combinations.__iter__" ⟨[a], []⟩ := by
  unfold argsOk; rw [signature?_of (id := "itertools.combinations.__iter__") (n := ['_', '_', 'r', 'e', 't', 'i', '_', '_']) (o := ['s', 'n', 'o', 'i', 't', 'a', 'n', 'i', 'b', 'm', 'o', 'c', '.', 's', 'l', 'o', 'o', 't', 'r', 'e', 't', 'i']) (by kernel_rfl) owner_comb]; kernel_rfl
theorem entry_comb_next : entryFor table "itertools.combinations.__next__" = some Builtin.«itertools.combinations.__next__» := entryFor_of_tree (by kernel_rfl)
theorem entry_comb_iter : entryFor table "itertools.combinations.__iter__" = some Builtin.«dict_keyiterator.__iter__» :=
  entryFor_alias (id' := "dict_keyiterator.__iter__") (by kernel_rfl) (by first | rfl | decide +kernel | (unfold String.splitOn; simp +decide [String.splitOnAux])) (by decide +kernel) (by kernel_rfl)
theorem mro_comb : mroOf (.type "itertools.combinations") = pure [.type "itertools.combinations", .type "object"] := by rw [mroOf_type]; kernel_rfl
theorem lookup_comb_new : typeLookup (.type "itertools.combinations") "__new__" = pure (some (.builtin "itertools.combinations.__new__")) := by rw [typeLookup_type, builtinLookup_eq_fast]; kernel_rfl
theorem called_comb : TypeCalled "itertools.combinations" "itertools.combinations.__new__" "object.__init__" :=
  ⟨by decide +kernel, by decide +kernel, ⟨_, _, mro_comb⟩, madeBy_type mro_comb lookup_comb_new (by decide +kernel), by decide +kernel, by rw [isSubtype_type]; kernel_rfl, slot_comb_init⟩
theorem typeCall_comb_2 (a b : Value) : checkTypeCall "itertools.combinations" ⟨[a, b], []⟩ = pure () := by kernel_rfl
theorem newCall_comb_2 (a b : Value) : checkBuiltinCall "itertools.combinations.__new__" ⟨[.type "itertools.combinations", a, b], []⟩ = pure () := by kernel_rfl
theorem entry_comb_new : entryFor table "itertools.combinations.__new__" = some Builtin.«itertools.combinations.__new__» := entryFor_of_tree (by kernel_rfl)
theorem sub_comb : isSubtype (.type "itertools.combinations") (.type "itertools.combinations") = pure true := by rw [isSubtype_type]; kernel_rfl
end Zk.FC
namespace Zk
open PySem PySem.Builtin PySem.Builtin.Itertools PyProof.Rows
/-- the places of the next choice -/
def nxC (n : Nat) (indices : List Nat) : Option (List Nat) :=
  let r := indices.length
  match (List.range r).reverse.find? fun i => indices.getD i 0 != i + n - r with
  | none => none
  | some i => some (indices.take i ++ (List.range (r - i)).map (indices.getD i 0 + 1 + ·))
def pickC (pool : Value) (indices : List Nat) : Sem Value := do
  let items ← itPoolItems pool
  newTuple (indices.map fun i => items.getD i .none)
def handOutC (self pool : Value) (indices : List Nat) : Sem Fin := do
  let result ← pickC pool indices
  let before ← field self 2
  setField self 2 result
  letGo [before] [result]
  ret result
def combNext (z : Addr) : Sem Fin := do
  let pool ← field (.ref z) 0
  let indices ← itNumbersFrom (.ref z) 3
  match ← itIntField (.ref z) 1 with
  | 0 => setField (.ref z) 1 (rawInt 1); handOutC (.ref z) pool indices
  | 1 =>
    match nxC (← itPoolItems pool).size indices with
    | some next => itSetNumbersFrom (.ref z) 3 next; handOutC (.ref z) pool next
    | none => setField (.ref z) 1 (rawInt 2); itStop
  | _ => rule "itertools.combinations.ended"; itStop
theorem combNext_eq (z : Addr) : Builtin.«itertools.combinations.__next__» ⟨[.ref z], []⟩ = combNext z := by
  rfl
def cFields (P : Addr) (st : Int) (last : Value) (ix : List Nat) : List Value := .ref P :: rawInt st :: last :: ix.map fun (i : Nat) => rawInt i
def IsComb (h : Heap) (z P : Addr) (st : Int) (last : Value) (ix : List Nat) : Prop := h.get? z = some { cls := .type "itertools.combinations", dict := none, data := .fields (cFields P st last ix).toArray, slots := #[] }
section
variable {prog : Program} {w : World} {A : Around} {E : Value → Shared → Prop} {s : Shared}
theorem comb_numbers {z P : Addr} {st : Int} {last : Value} {ix : List Nat} {Q : List Nat → Shared → Prop} (hz : IsComb s.heap z P st last ix) (h : Q ix s) : wpAny (model prog w) A (itNumbersFrom (.ref z) 3) Q E s := by
  unfold itNumbersFrom
  refine wpAny_bind (wpAny_load hz ?_)
  simp only
  refine wpAny_pure ?_
  have key : ∀ l : List Nat, l = ix → Q l s := fun l e => e ▸ h
  refine key _ ?_
  simp only [cFields, List.drop_succ_cons, List.drop_zero, List.map_map]
  refine (List.map_congr_left fun i _ => ?_).trans (List.map_id _)
  simp [rawInt]
theorem comb_int {z P : Addr} {st : Int} {last : Value} {ix : List Nat} {Q : Int → Shared → Prop} (hz : IsComb s.heap z P st last ix) (h : Q st s) : wpAny (model prog w) A (itIntField (.ref z) 1) Q E s := by
  unfold itIntField
  refine wpAny_bind (wpAny_field hz rfl (x := rawInt st) (by simp [cFields]) ?_)
  exact wpAny_pure h
theorem comb_set1 {z P : Addr} {st st' : Int} {last : Value} {ix : List Nat} {Q : Unit → Shared → Prop} (hz : IsComb s.heap z P st last ix) (h : ∀ h', IsComb h' z P st' last ix → Heap.SameBut z s.heap h' → Q () { s with heap := h' }) : wpAny (model prog w) A (setField (.ref z) 1 (rawInt st')) Q E s := by
  refine wpAny_setField_rec hz (by simp [cFields]) fun h' e sb => h h' ?_ sb
  unfold IsComb
  rw [e]
  simp [cFields]
theorem comb_set2 {z P : Addr} {st : Int} {last last' : Value} {ix : List Nat} {Q : Unit → Shared → Prop} (hz : IsComb s.heap z P st last ix) (h : ∀ h', IsComb h' z P st last' ix → Heap.SameBut z s.heap h' → Q () { s with heap := h' }) : wpAny (model prog w) A (setField (.ref z) 2 last') Q E s := by
  refine wpAny_setField_rec hz (by simp [cFields]) fun h' e sb => h h' ?_ sb
  unfold IsComb
  rw [e]
  simp [cFields]
theorem comb_setN {z P : Addr} {st : Int} {last : Value} {ix nx : List Nat} {Q : Unit → Shared → Prop} (hn : nx.length ≤ 1000000) (hz : IsComb s.heap z P st last ix) (h : ∀ h', IsComb h' z P st last nx → Heap.SameBut z s.heap h' → Q () { s with heap := h' }) : wpAny (model prog w) A (itSetNumbersFrom (.ref z) 3 nx) Q E s := by
  unfold itSetNumbersFrom
  have e : (cFields P st last ix).toArray.extract 0 3 ++ (nx.map fun (n : Nat) => rawInt n).toArray = (cFields P st last nx).toArray := by
    simp [cFields]
  refine wpAny_updateFields hz rfl (h _ ?_ (Heap.SameBut.update ..)) ?_
  · unfold IsComb
    rw [Heap.get?_update_self _ hz rfl]
    simp only [Obj.mapFields, e]
  · rw [e]
    simp [cFields, sizeLine]
    omega
theorem comb_hand {z P : Addr} {last : Value} {ix : List Nat} {items : Array Value} {Q : Value → Shared → Prop} (hn : ix.length ≤ 1000000) (hz : IsComb s.heap z P 1 last ix) (hP : IsTup s.heap P items)
    (hQ : ∀ h', IsComb h' z P 1 (.ref s.heap.objs.size) ix → h'.get? s.heap.objs.size = some { cls := .type "tuple", data := .seq (ix.map fun i => items.getD i .none).toArray } → h'.objs.size = s.heap.objs.size + 1 →
      (∀ c o, c ≠ z → s.heap.get? c = some o → h'.get? c = some o) → Q (.ref s.heap.objs.size) { s with heap := h' }) :
    wpAny (model prog w) A (handOutC (.ref z) (.ref P) ix) (fun fin s' => ∃ v, fin = .done (.ret v) ∧ Q v s') E s := by
  obtain ⟨oP, hoP, _, nP, hdP⟩ := hP
  have hzl : z < s.heap.objs.size := Heap.lt_size hz
  unfold handOutC pickC
  refine wpAny_bind (wpAny_bind ?_)
  unfold itPoolItems
  refine wpAny_bind (wpAny_seqItems hoP hdP ?_)
  refine wpAny_pure ?_
  refine wpAny_newTuple ?_ (by rw [List.length_map]; unfold sizeLine; omega)
  have hz1 : IsComb (s.heap.push { cls := .type "tuple", data := .seq (ix.map fun i => items.getD i .none).toArray }) z P 1 last ix := Heap.get?_push_of_some _ hz
  refine wpAny_bind (wpAny_field hz1 rfl (x := last) (by simp [cFields]) ?_)
  refine wpAny_bind (comb_set2 hz1 fun h' hz2 sb => ?_)
  refine wpAny_bind (wpAny_letGo ?_)
  refine wpAny_pure ⟨_, rfl, hQ h' hz2 ?_ ?_ fun c o c1 e => sb.extBut _ _ c1 (Heap.get?_push_of_some _ e)⟩
  · exact sb.extBut _ _ (Nat.ne_of_gt hzl) (Heap.get?_push_size _ rfl)
  · rw [sb.1, Heap.size_push]
theorem comb_next_item {z P : Addr} {st : Int} {last : Value} {ix nx : List Nat} {items : Array Value} {Q : Value → Shared → Prop} (hzP : P ≠ z) (hn : nx.length ≤ 1000000) (hz : IsComb s.heap z P st last ix) (hP : IsTup s.heap P items)
    (step : (st = 0 ∧ nx = ix) ∨ (st = 1 ∧ nxC items.size ix = some nx))
    (hQ : ∀ h', IsComb h' z P 1 (.ref s.heap.objs.size) nx → h'.get? s.heap.objs.size = some { cls := .type "tuple", data := .seq (nx.map fun i => items.getD i .none).toArray } → h'.objs.size = s.heap.objs.size + 1 →
      (∀ c o, c ≠ z → s.heap.get? c = some o → h'.get? c = some o) → Q (.ref s.heap.objs.size) { s with heap := h' }) :
    wpAny (model prog w) A (Builtin.«itertools.combinations.__next__» ⟨[.ref z], []⟩) (fun fin s' => ∃ v, fin = .done (.ret v) ∧ Q v s') E s := by
  rw [combNext_eq]
  unfold combNext
  refine wpAny_bind (wpAny_field hz rfl (x := .ref P) (by simp [cFields]) ?_)
  refine wpAny_bind (comb_numbers hz ?_)
  refine wpAny_bind (comb_int hz ?_)
  rcases step with ⟨rfl, rfl⟩ | ⟨rfl, hs⟩
  · show wpAny _ _ (setField (.ref z) 1 (rawInt 1) >>= _) _ _ _
    refine wpAny_bind (comb_set1 hz fun h1 hz1 sb => ?_)
    have hP1 : IsTup h1 P items := by
      obtain ⟨o, ho, r⟩ := hP
      exact ⟨o, sb.extBut _ _ hzP ho, r⟩
    refine comb_hand (s := { s with heap := h1 }) hn hz1 hP1 fun h' a1 a2 a3 a4 => ?_
    have es : h1.objs.size = s.heap.objs.size := sb.1
    simp only [es] at a1 a2 a3 ⊢
    exact hQ h' a1 a2 a3 fun c o c1 e => a4 c o c1 (sb.extBut _ _ c1 e)
  · show wpAny _ _ (itPoolItems (.ref P) >>= _) _ _ _
    obtain ⟨oP, hoP, hcP, nP, hdP⟩ := id hP
    refine wpAny_bind ?_
    unfold itPoolItems
    refine wpAny_bind (wpAny_seqItems hoP hdP (wpAny_pure ?_))
    simp only [hs]
    refine wpAny_bind (comb_setN hn hz fun h1 hz1 sb => ?_)
    have hP1 : IsTup h1 P items := ⟨oP, sb.extBut _ _ hzP hoP, hcP, nP, hdP⟩
    refine comb_hand (s := { s with heap := h1 }) hn hz1 hP1 fun h' a1 a2 a3 a4 => ?_
    have es : h1.objs.size = s.heap.objs.size := sb.1
    simp only [es] at a1 a2 a3 ⊢
    exact hQ h' a1 a2 a3 fun c o c1 e => a4 c o c1 (sb.extBut _ _ c1 e)
theorem it_stop {Q : Fin → Shared → Prop} (hh : A.handled = none) (hE : ∀ h' e, (∀ c o, s.heap.get? c = some o → h'.get? c = some o) → (∃ o, h'.get? e = some o ∧ o.cls = .type "StopIteration") → E (.ref e) { s with heap := h' }) :
    wpAny (model prog w) A (itStop : Sem Fin) Q E s := by
  unfold itStop
  refine wpAny_bind ?_
  simp only [newExc, newTuple]
  refine wpAny_bind (wpAny_newObj_type ?_ (by size_fits))
  refine wpAny_bind (m := firstArgMember _ _) (wpAny_of_eq (a := Value.none) (by first | rfl | (simp only [firstArgMember]; rfl)) ?_)
  refine wpAny_newObj_type ?_ (by size_fits)
  simp only [raiseNew]
  refine wpAny_bind (wpAny_handled ?_)
  first | rw [show A.in1.handled = none from hh] | rw [hh]
  refine wpAny_bind (wpAny_pure (wpAny_throw ?_))
  exact hE _ _ (fun c o e => Heap.get?_push_of_some _ (Heap.get?_push_of_some _ e)) ⟨_, Heap.get?_push_size _ rfl, rfl⟩
theorem comb_next_end {z P : Addr} {st : Int} {last : Value} {ix : List Nat} {items : Array Value} {Q : Fin → Shared → Prop} (hh : A.handled = none) (hz : IsComb s.heap z P st last ix) (hP : IsTup s.heap P items)
    (step : st = 2 ∨ (st = 1 ∧ nxC items.size ix = none))
    (hE : ∀ h' e, (∀ c o, c ≠ z → s.heap.get? c = some o → h'.get? c = some o) → (∃ o, h'.get? e = some o ∧ o.cls = .type "StopIteration") → E (.ref e) { s with heap := h' }) :
    wpAny (model prog w) A (Builtin.«itertools.combinations.__next__» ⟨[.ref z], []⟩) Q E s := by
  rw [combNext_eq]
  unfold combNext
  refine wpAny_bind (wpAny_field hz rfl (x := .ref P) (by simp [cFields]) ?_)
  refine wpAny_bind (comb_numbers hz ?_)
  refine wpAny_bind (comb_int hz ?_)
  rcases step with rfl | ⟨rfl, hs⟩
  · show wpAny _ _ (rule "itertools.combinations.ended" >>= _) _ _ _
    refine wpAny_bind (wpAny_rule ?_)
    exact it_stop hh fun h' e k x => hE h' e (fun c o _ q => k c o q) x
  · show wpAny _ _ (itPoolItems (.ref P) >>= _) _ _ _
    obtain ⟨oP, hoP, hcP, nP, hdP⟩ := id hP
    refine wpAny_bind ?_
    unfold itPoolItems
    refine wpAny_bind (wpAny_seqItems hoP hdP (wpAny_pure ?_))
    simp only [hs]
    refine wpAny_bind (comb_set1 hz fun h1 hz1 sb => ?_)
    exact it_stop (s := { s with heap := h1 }) hh fun h' e k x => hE h' e (fun c o c1 q => k c o (sb.extBut _ _ c1 q)) x
end
end Zk
namespace Zk
open PySem PySem.Builtin PySem.Builtin.Itertools PyProof.Rows
section
variable {prog : Program} {w : World} {A : Around} {E : Value → Shared → Prop} {s : Shared}
theorem pyNext_comb_item {z P : Addr} {st : Int} {last : Value} {ix nx : List Nat} {items : Array Value} {Q : Option Value → Shared → Prop} (hzP : P ≠ z) (hn : nx.length ≤ 1000000) (hz : IsComb s.heap z P st last ix) (hP : IsTup s.heap P items)
    (step : (st = 0 ∧ nx = ix) ∨ (st = 1 ∧ nxC items.size ix = some nx))
    (hQ : ∀ h', IsComb h' z P 1 (.ref s.heap.objs.size) nx → h'.get? s.heap.objs.size = some { cls := .type "tuple", data := .seq (nx.map fun i => items.getD i .none).toArray } → h'.objs.size = s.heap.objs.size + 1 →
      (∀ c o, c ≠ z → s.heap.get? c = some o → h'.get? c = some o) → Q (some (.ref s.heap.objs.size)) { s with heap := h' }) :
    wpAny (model prog w) A (pyNext (.ref z)) Q E s := by
  have hT : s.TypeIs (.ref z) "itertools.combinations" := ⟨_, hz, rfl⟩
  unfold pyNext
  exact wpAny_bind (wpAny_attempt (wpAny_callSpecial?_slot (name := Str.ofString "__next__") hT FC.slot_comb_next
    (wpAny_call_entry FC.slot_comb_next hT FC.entry_comb_next
      (comb_next_item hzP hn hz hP step fun h' a1 a2 a3 a4 => wpAny_pure (hQ h' a1 a2 a3 a4)) (FC.args_comb_next_1 _))))
theorem pyNext_comb_end {z P : Addr} {st : Int} {last : Value} {ix : List Nat} {items : Array Value} {Q : Option Value → Shared → Prop} (hh : A.handled = none) (hz : IsComb s.heap z P st last ix) (hP : IsTup s.heap P items)
    (step : st = 2 ∨ (st = 1 ∧ nxC items.size ix = none))
    (hQ : ∀ h', (∀ c o, c ≠ z → s.heap.get? c = some o → h'.get? c = some o) → Q none { s with heap := h' }) : wpAny (model prog w) A (pyNext (.ref z)) Q E s := by
  have hT : s.TypeIs (.ref z) "itertools.combinations" := ⟨_, hz, rfl⟩
  unfold pyNext
  refine wpAny_bind (wpAny_attempt (wpAny_callSpecial?_slot (name := Str.ofString "__next__") hT FC.slot_comb_next
    (wpAny_call_entry FC.slot_comb_next hT FC.entry_comb_next (comb_next_end hh hz hP step fun h' e hk he => ?_) (FC.args_comb_next_1 _))))
  obtain ⟨o, ho, hc⟩ := he
  refine wpAny_bind (wpAny_isInstance (T := "StopIteration") (b := true) ⟨o, ho, hc⟩ isSubtype_stop ?_)
  exact wpAny_pure (hQ _ hk)
theorem pyIter_comb {z P : Addr} {st : Int} {last : Value} {ix : List Nat} {Q : Value → Shared → Prop} (hz : IsComb s.heap z P st last ix) (h : Q (.ref z) s) : wpAny (model prog w) A (pyIter (.ref z)) Q E s := by
  have hT : s.TypeIs (.ref z) "itertools.combinations" := ⟨_, hz, rfl⟩
  refine wpAny_pyIter_slot hT FC.slot_comb_iter (wpAny_call_entry FC.slot_comb_iter hT FC.entry_comb_iter ?_ (FC.args_comb_iter_1 _))
  show wpAny _ _ (ret (.ref z)) _ _ s
  exact wpAny_pure ⟨_, rfl, "itertools.combinations", _, hT, FC.slot_comb_next.lookup, h⟩
theorem owned_comb {tgt : Expr} {z P T : Addr} {st : Int} {last : Value} {ix : List Nat} {Q : Unit → Shared → Prop} (hz : IsComb s.heap z P st last ix) (h : Q () s) : wpAny (model prog w) A (letOwnedTupleGo tgt (.ref z) (.ref T)) Q E s := by
  unfold letOwnedTupleGo
  split
  · refine wpAny_bind (wpAny_load hz ?_)
    show wpAny _ _ (if (_ : Bool) = true then _ else _) _ _ _
    rw [if_neg (by simp)]
    exact wpAny_pure h
  · refine wpAny_bind (wpAny_load hz ?_)
    show wpAny _ _ (if (_ : Bool) = true then _ else _) _ _ _
    rw [if_neg (by simp)]
    exact wpAny_pure h
  · exact wpAny_pure h
end
def poolAndRC (short : String) (args : Args) : Sem (Value × Value × Nat × Nat) := do
  let (cls, rest) ← itClassAndRest short args
  let [some iterable, some rV] ← itBindNamed short ["iterable", "r"] 2 2 rest args.kw | unsupported "internal:itertools.combinations.__new__"
  let r ← itSsizeArg rV
  let items ← collect iterable
  if r < 0 then rule "itertools.combinations.negative-r"; raiseError "ValueError" "r must be non-negative"
  if itTooMany r then unsupported s!"itertools.{short}.__new__:memory"
  return (cls, ← newTuple items, items.length, r.toNat)
def combNew (v r : Value) : Sem Fin := do
  let (cls, pool, n, r) ← poolAndRC "combinations" ⟨[.type "itertools.combinations", v, r], []⟩
  ret (← itNewRecord cls ([pool, rawInt (if r > n then 2 else 0), .none] ++ (List.range r).map fun (i : Nat) => rawInt i))
theorem combNew_eq (v r : Value) : Builtin.«itertools.combinations.__new__» ⟨[.type "itertools.combinations", v, r], []⟩ = combNew v r := by
  rfl
theorem cr_ok : itClassAndRest "combinations" ⟨[.type "itertools.combinations", v, r], []⟩ = pure (.type "itertools.combinations", [v, r]) := by
  show (isSubtype (.type "itertools.combinations") (.type ("itertools." ++ "combinations")) >>= _) = _
  rw [show ("itertools." ++ "combinations" : String) = "itertools.combinations" from by decide, FC.sub_comb]
  rfl
theorem bn_ok (v r : Value) : itBindNamed "combinations" ["iterable", "r"] 2 2 [v, r] [] = pure [some v, some r] := by
  rfl
theorem ss_ok (k : Int) (t : PySem.Tok) (h : 0 ≤ k) (h2 : k ≤ 1000000) : itSsizeArg (.int k t) = pure k := by
  have c : ¬ ((decide (k < -(2 ^ 63 : Int)) || decide (k ≥ 2 ^ 63)) = true) := by
    simp
    omega
  show (if (decide (k < -(2 ^ 63 : Int)) || decide (k ≥ 2 ^ 63)) = true then _ else pure k) = pure k
  rw [if_neg c]
theorem hd_ok : typeHasDict (.type "itertools.combinations") = false := by decide +kernel
section
variable {prog : Program} {w : World} {A : Around} {E : Value → Shared → Prop} {s : Shared}
/-- the record, behind the tuple of the things -/
theorem comb_made {P n r : Nat} {Q : Value → Shared → Prop} (hr : r ≤ 1000000)
    (hQ : IsComb (s.heap.push { cls := .type "itertools.combinations", dict := none, data := .fields (cFields P (if r > n then 2 else 0) .none (List.range r)).toArray }) s.heap.objs.size P (if r > n then 2 else 0) .none (List.range r) →
      Q (.ref s.heap.objs.size) { s with heap := s.heap.push { cls := .type "itertools.combinations", dict := none, data := .fields (cFields P (if r > n then 2 else 0) .none (List.range r)).toArray } }) :
    wpAny (model prog w) A (itNewRecord (.type "itertools.combinations") ([.ref P, rawInt (if r > n then 2 else 0), .none] ++ (List.range r).map fun (i : Nat) => rawInt i) >>= fun v => ret v) (fun fin s' => ∃ v, fin = .done (.ret v) ∧ Q v s') E s := by
  refine wpAny_bind ?_
  unfold itNewRecord
  rw [hd_ok]
  show wpAny _ _ (newObj (.type "itertools.combinations") (.fields _)) _ _ _
  have e : ([Value.ref P, rawInt (if r > n then 2 else 0), .none] ++ (List.range r).map fun (i : Nat) => rawInt i) = cFields P (if r > n then 2 else 0) .none (List.range r) := rfl
  rw [e]
  refine wpAny_newObj_type ?_ (by simp [sizeOk, cFields, sizeLine]; omega)
  exact wpAny_pure ⟨_, rfl, hQ (Heap.get?_push_size _ rfl)⟩
theorem comb_new {v : Value} {r : Nat} {t : PySem.Tok} {Q : Value → Shared → Prop} (hr : r ≤ 1000000)
    (hc : wpAny (model prog w) A (collect v) (fun items s1 => items.length ≤ sizeLine ∧ ∀ h', IsComb h' (s1.heap.objs.size + 1) s1.heap.objs.size (if r > items.length then 2 else 0) .none (List.range r) → IsTup h' s1.heap.objs.size items.toArray → (∀ c o, s1.heap.get? c = some o → h'.get? c = some o) → Q (.ref (s1.heap.objs.size + 1)) { s1 with heap := h' }) E s) :
    wpAny (model prog w) A (Builtin.«itertools.combinations.__new__» ⟨[.type "itertools.combinations", v, .int (r : Int) t], []⟩) (fun fin s' => ∃ v, fin = .done (.ret v) ∧ Q v s') E s := by
  rw [combNew_eq]
  unfold combNew poolAndRC
  rw [cr_ok]
  refine wpAny_bind (wpAny_bind (wpAny_pure ?_))
  refine wpAny_bind (wpAny_of_eq (bn_ok _ _) ?_)
  refine wpAny_bind (wpAny_of_eq (ss_ok _ _ (by omega) (by omega)) ?_)
  refine wpAny_bind (wpAny_mono hc (fun items s1 h1 => ?_) fun _ _ h => h)
  obtain ⟨hl, h1⟩ := h1
  have n1 : ¬ (r : Int) < 0 := by omega
  have n2 : itTooMany (r : Int) = false := by unfold itTooMany; simp; omega
  rw [if_neg n1, n2, if_neg Bool.false_ne_true]
  refine wpAny_bind (wpAny_newTuple ?_ hl)
  refine wpAny_pure ?_
  simp only [Int.toNat_natCast]
  have z : (s1.heap.push { cls := .type "tuple", data := .seq items.toArray }).objs.size = s1.heap.objs.size + 1 := Heap.size_push ..
  refine comb_made (s := { s1 with heap := s1.heap.push { cls := .type "tuple", data := .seq items.toArray } }) hr fun hz => ?_
  simp only [z] at hz ⊢
  exact h1 _ hz ⟨_, Heap.get?_push_of_some _ (Heap.get?_push_size _ rfl), rfl, _, rfl⟩ fun c o q => Heap.get?_push_of_some _ (Heap.get?_push_of_some _ q)
end
end Zk
namespace Zk
open PySem PySem.Spec PyProof.Rows L2 RZ
def chC : Nat → Nat → List Nat → Option (List (List Nat))
  | 0, _, _ => none
  | f + 1, n, ix => match nxC n ix with
    | none => some [ix]
    | some nx => (chC f n nx).map (ix :: ·)
/-- all choices of r out of n, as the library tells them -/
def combE (n r : Nat) : Option (List (List Nat)) := if r > n then some [] else chC 100000 n (List.range r)
theorem chC_spec {n : Nat} : ∀ {f : Nat} {ix : List Nat} {L : List (List Nat)}, chC f n ix = some L → L[0]? = some ix ∧ ∀ i x, L[i]? = some x → nxC n x = L[i + 1]?
  | 0, _, _, h => by cases h
  | f + 1, ix, L, h => by
    unfold chC at h
    cases e : nxC n ix with
    | none =>
      rw [e] at h
      cases h
      refine ⟨rfl, fun i x hx => ?_⟩
      cases i with
      | zero => cases hx; rw [e]; rfl
      | succ i => simp at hx
    | some nx =>
      rw [e] at h
      simp only at h
      cases e2 : chC f n nx with
      | none => rw [e2] at h; cases h
      | some M =>
        rw [e2] at h
        cases h
        obtain ⟨h0, hs⟩ := chC_spec e2
        refine ⟨rfl, fun i x hx => ?_⟩
        cases i with
        | zero => cases hx; rw [e]; exact h0.symm
        | succ i => exact hs i x hx
theorem nxC_len {n : Nat} {ix nx : List Nat} (h : nxC n ix = some nx) : nx.length = ix.length := by
  unfold nxC at h
  simp only at h
  split at h
  · cases h
  · rename_i i hi
    cases h
    have hm := List.mem_of_find?_eq_some hi
    rw [List.mem_reverse, List.mem_range] at hm
    rw [List.length_append, List.length_take, List.length_map, List.length_range]
    omega
theorem chC_len {n : Nat} : ∀ {f : Nat} {ix : List Nat} {L : List (List Nat)}, chC f n ix = some L → ∀ x ∈ L, x.length = ix.length
  | 0, _, _, h => by cases h
  | f + 1, ix, L, h => by
    unfold chC at h
    cases e : nxC n ix with
    | none =>
      rw [e] at h
      cases h
      intro x hx
      rw [List.mem_singleton.mp hx]
    | some nx =>
      rw [e] at h
      simp only at h
      cases e2 : chC f n nx with
      | none => rw [e2] at h; cases h
      | some M =>
        rw [e2] at h
        cases h
        intro x hx
        rcases List.mem_cons.mp hx with rfl | hx
        · rfl
        · rw [chC_len e2 x hx, nxC_len e]
def pickV (xs : List V) (ix : List Nat) : List V := ix.map fun i => xs.getD i .non
def pickD (ds : List D) (ix : List Nat) : List D := ix.map fun i => ds.getD i .non
/-- the choices, each in a new tuple -/
def Itc (xs : List V) (L : List (List Nat)) : It :=
  ⟨fun i _ => i < L.length, fun i H v H' => ∃ T ix, v = .ref T ∧ H T = none ∧ L[i]? = some ix ∧ H' = upd H T (.tup (pickV xs ix)), fun i _ => L.length ≤ i⟩
theorem vals_pick {xs : List V} {its : List Value} (r : Vals xs its) (ix : List Nat) : Vals (pickV xs ix) (ix.map fun i => its.toArray.getD i .none) := by
  induction ix with
  | nil => exact .nil
  | cons i ix ih =>
    refine .cons ?_ ih
    have e : its.toArray.getD i .none = its.getD i .none := by simp
    show L2.RelV (xs.getD i .non) (its.toArray.getD i .none)
    rw [e]
    have l := r.length
    by_cases h : i < xs.length
    · obtain ⟨u, hu, ru⟩ := r.get (List.getElem?_eq_getElem h)
      rw [List.getD_eq_getElem?_getD, List.getD_eq_getElem?_getD, List.getElem?_eq_getElem h, hu]
      exact ru
    · rw [List.getD_eq_getElem?_getD, List.getD_eq_getElem?_getD, List.getElem?_eq_none (by omega), List.getElem?_eq_none (by omega)]
      rfl
def cSt (L : List (List Nat)) (r z P : Nat) (i : Nat) (h : Heap) : Prop :=
  if L = [] then ∃ last, IsComb h z P 2 last (List.range r) else if i = 0 then ∃ last, IsComb h z P 0 last (List.range r) else ∃ last ix, L[i - 1]? = some ix ∧ IsComb h z P 1 last ix
theorem cSt.comb {L : List (List Nat)} {r z P i : Nat} {h : Heap} (c : cSt L r z P i h) : ∃ st last ix, IsComb h z P st last ix := by
  unfold cSt at c
  split at c
  · obtain ⟨l, c⟩ := c; exact ⟨_, _, _, c⟩
  · split at c
    · obtain ⟨l, c⟩ := c; exact ⟨_, _, _, c⟩
    · obtain ⟨l, ix, _, c⟩ := c; exact ⟨_, _, _, c⟩
theorem cSt.keep {L : List (List Nat)} {r z P i : Nat} {h h' : Heap} (c : cSt L r z P i h) (k : ∀ o, h.get? z = some o → h'.get? z = some o) : cSt L r z P i h' := by
  unfold cSt at c ⊢
  split
  · rename_i e; rw [if_pos e] at c; obtain ⟨l, c⟩ := c; exact ⟨l, k _ c⟩
  · rename_i e
    rw [if_neg e] at c
    split
    · rename_i e2; rw [if_pos e2] at c; obtain ⟨l, c⟩ := c; exact ⟨l, k _ c⟩
    · rename_i e2; rw [if_neg e2] at c; obtain ⟨l, ix, g, c⟩ := c; exact ⟨l, ix, g, k _ c⟩
theorem turn_comb {Pg : Program} {w : World} {K : PySem.W.Frag} {tg : Expr} {z P r : Nat} {xs : List V} {its : List Value} {L : List (List Nat)} (hzP : P ≠ z) (rv : Vals xs its) (hr : r ≤ 1000000)
    (hL : combE xs.length r = some L) :
    Turn Pg w K tg (Itc xs L) [z, P] z (fun i h => cSt L r z P i h ∧ IsTup h P its.toArray) := by
  have len := rv.length
  have hsz : its.toArray.size = xs.length := by rw [List.size_toArray, len]
  have sp : L ≠ [] → L[0]? = some (List.range r) ∧ (∀ i x, L[i]? = some x → nxC xs.length x = L[i + 1]?) ∧ ∀ x ∈ L, x.length = r := fun ne => by
    unfold combE at hL
    split at hL
    · cases hL; exact absurd rfl ne
    · obtain ⟨a, b⟩ := chC_spec hL
      exact ⟨a, b, fun x hx => by rw [chC_len hL x hx, List.length_range]⟩
  exact {
    mem := by simp
    obj := fun i h st c hc => by
      obtain ⟨cs, oP, hoP, _, nP, hdP⟩ := st
      obtain ⟨_, _, _, hz⟩ := cs.comb
      have e' : c = z ∨ c = P := by simpa using hc
      rcases e' with q | q
      · rw [q]; exact ⟨_, hz, fun v q => nomatch q⟩
      · rw [q]; exact ⟨oP, hoP, fun v q => by rw [hdP] at q; cases q⟩
    keep := fun i h h' st k => ⟨st.1.keep fun o q => k z (by simp) o q, by
      obtain ⟨oP, hoP, rest⟩ := st.2
      exact ⟨oP, k P (by simp) _ hoP, rest⟩⟩
    item := by
      intro X hP hw hK hc i pins s σ H E I hf st hg
      subst hP hw hK
      obtain ⟨cs, hPt⟩ := st
      have hg : i < L.length := hg
      have ne : L ≠ [] := fun e => by rw [e] at hg; simp at hg
      obtain ⟨s0, sn, sl⟩ := sp ne
      have hx : L[i]? = some L[i] := List.getElem?_eq_getElem hg
      generalize L[i] = nx at hx
      have hnl : nx.length = r := sl nx (List.mem_of_getElem? hx)
      obtain ⟨st0, last, ix, hz, step⟩ : ∃ st0 last ix, IsComb s.heap z P st0 last ix ∧ ((st0 = 0 ∧ nx = ix) ∨ (st0 = 1 ∧ nxC its.toArray.size ix = some nx)) := by
        unfold cSt at cs
        rw [if_neg ne] at cs
        by_cases e2 : i = 0
        · rw [if_pos e2] at cs
          obtain ⟨l, c⟩ := cs
          refine ⟨_, _, _, c, .inl ⟨rfl, ?_⟩⟩
          rw [e2, s0] at hx
          exact (Option.some.inj hx).symm
        · rw [if_neg e2] at cs
          obtain ⟨l, ix, g, c⟩ := cs
          refine ⟨_, _, _, c, .inr ⟨rfl, ?_⟩⟩
          have := sn _ _ g
          rw [show i - 1 + 1 = i by omega, hx] at this
          rw [hsz]
          exact this
      have hzl : z < s.heap.objs.size := Heap.lt_size hz
      obtain ⟨oP, hoP, hcP, nP, hdP⟩ := id hPt
      have hPl : P < s.heap.objs.size := Heap.lt_size hoP
      refine pyNext_comb_item hzP (by rw [hnl]; exact hr) hz hPt step fun h' hz' hT hs' hk => ?_
      refine ⟨_, rfl, owned_comb (s := { s with heap := h' }) hz' ?_⟩
      have new : ObjOk X.prog X.w (upd H s.heap.objs.size (.tup (pickV xs nx))) h' s.heap.objs.size (.tup (pickV xs nx)) :=
        ⟨by unfold pickV; rw [List.length_map, hnl]; unfold sizeLine; omega, _, vals_pick rv nx, ⟨_, hT, rfl, _, rfl⟩⟩
      have I1 : Inv X pins σ (upd H s.heap.objs.size (.tup (pickV xs nx))) { s with heap := h' } :=
        I.turnedNew (t' := s.toks) (ch := [z, P]) (fun c o hb q => hk c o (fun q' => hb (by simp [q'])) q) hf (Nat.le_refl _) new
      refine ⟨.ref s.heap.objs.size, _, I1, rfl, ⟨_, nx, rfl, I.hok.fresh (Nat.le_refl _), hx, rfl⟩, ⟨?_, oP, hk P _ hzP hoP, hcP, nP, hdP⟩, fun c hcm => ?_⟩
      · show cSt L r z P (i + 1) h'
        unfold cSt
        rw [if_neg ne, if_neg (by omega)]
        exact ⟨_, nx, by rw [Nat.add_sub_cancel]; exact hx, hz'⟩
      · have hlt : c < s.heap.objs.size := by
          have e' : c = z ∨ c = P := by simpa using hcm
          rcases e' with q | q
          · rw [q]; exact hzl
          · rw [q]; exact hPl
        rw [upd_ne (Nat.ne_of_lt hlt)]
        exact (hf c hcm).1
    done := by
      intro X hP hw hK hc i pins s σ H E I hf st hg
      subst hP hw hK
      obtain ⟨cs, hPt⟩ := st
      have hg : L.length ≤ i := hg
      obtain ⟨st0, last, ix, hz, step⟩ : ∃ st0 last ix, IsComb s.heap z P st0 last ix ∧ (st0 = 2 ∨ (st0 = 1 ∧ nxC its.toArray.size ix = none)) := by
        unfold cSt at cs
        by_cases ne : L = []
        · rw [if_pos ne] at cs
          obtain ⟨l, c⟩ := cs
          exact ⟨_, _, _, c, .inl rfl⟩
        · rw [if_neg ne] at cs
          have lp : 0 < L.length := List.length_pos_iff.mpr ne
          rw [if_neg (by omega)] at cs
          obtain ⟨l, ix, g, c⟩ := cs
          refine ⟨_, _, _, c, .inr ⟨rfl, ?_⟩⟩
          have := (sp ne).2.1 _ _ g
          rw [show i - 1 + 1 = i by omega, List.getElem?_eq_none hg] at this
          rw [hsz]
          exact this
      exact pyNext_comb_end (I.ok.hd hc) hz hPt step fun h' hk => ⟨rfl, I.turnedL (t' := s.toks) (ch := [z, P]) (fun c o hb q => hk c o (fun q' => hb (by simp [q'])) q) hf⟩
    self := fun A i s Q E st h => by
      obtain ⟨_, _, _, hz⟩ := st.1.comb
      exact pyIter_comb hz h }
end Zk
namespace Zk
open PySem PySem.Spec PyProof.Rows L2 RZ
section
variable {prog : Program} {w : World} {A : Around} {E : Value → Shared → Prop} {s : Shared}
theorem meets_comb_seq (v : Addr) (r : Nat) (t : PySem.Tok) (items : Array Value) (T : String) (hT : T = "list" ∨ T = "tuple") :
    Meets (Builtin.«itertools.combinations.__new__» ⟨[.type "itertools.combinations", .ref v, .int (r : Int) t], []⟩) (fun _ R s => r ≤ 1000000 ∧ items.size ≤ sizeLine ∧ (∃ o n, s.heap.get? v = some o ∧ o.cls = .type T ∧ o.data = .seq items n) ∧
      ∀ (h0 : Heap), (∀ c o, s.heap.get? c = some o → h0.get? c = some o) → ∀ h', IsComb h' (h0.objs.size + 1) h0.objs.size (if r > items.size then 2 else 0) .none (List.range r) → IsTup h' h0.objs.size items → (∀ c o, h0.get? c = some o → h'.get? c = some o) → R (.ok (.ret (.ref (h0.objs.size + 1)))) { s with heap := h' }) :=
  .of_wp fun prog w A R s ⟨hr, hz, ⟨o, n, ho, hc, hd⟩, h⟩ => by
    refine comb_new hr (wpAny_collect_seq v hT ho hc hd (fun h0 k => ⟨by rw [Array.length_toList]; exact hz, fun h' a1 a2 a3 => ?_⟩) hz)
    simp only [Array.length_toList, Array.toArray_toList] at a1 a2
    exact h h0 k h' a1 a2 a3
theorem call_comb_seq {v : Addr} {r : Nat} {t : PySem.Tok} {items : Array Value} {T : String} {o : Obj} {n : Nat} {Q : Value → Shared → Prop} (hT : T = "list" ∨ T = "tuple") (hr : r ≤ 1000000) (hz : items.size ≤ sizeLine) (ho : s.heap.get? v = some o) (hc : o.cls = .type T) (hd : o.data = .seq items n)
    (h : ∀ (h0 : Heap), (∀ c o, s.heap.get? c = some o → h0.get? c = some o) → ∀ h', IsComb h' (h0.objs.size + 1) h0.objs.size (if r > items.size then 2 else 0) .none (List.range r) → IsTup h' h0.objs.size items → (∀ c o, h0.get? c = some o → h'.get? c = some o) → Q (.ref (h0.objs.size + 1)) { s with heap := h' }) :
    wpAny (model prog w) A (call (.type "itertools.combinations") [.ref v, .int (r : Int) t]) Q E s := by
  refine callType_new FC.called_comb (by decide) (FC.typeCall_comb_2 _ _) (FC.newCall_comb_2 _ _) (fun obj => F.args_object_init_3 obj _ _) FC.entry_comb_new
    (meets_comb_seq v r t items T hT) ⟨hr, hz, ⟨o, n, ho, hc, hd⟩, fun h0 k h' a1 a2 a3 => ?_⟩
  exact ⟨⟨_, a1, rfl⟩, h h0 k h' a1 a2 a3⟩
theorem meets_comb_rng (v : Addr) (r : Nat) (t : PySem.Tok) (a b : Int) (t1 t2 t3 : PySem.Tok) (ok : RgOk a b) :
    Meets (Builtin.«itertools.combinations.__new__» ⟨[.type "itertools.combinations", .ref v, .int (r : Int) t], []⟩) (fun A R s => A.handled = none ∧ r ≤ 1000000 ∧ IsRange s.heap v a b 1 t1 t2 t3 ∧
      ∀ (h0 : Heap) (tk : Nat) (acc : Array Value), (∀ c o, s.heap.get? c = some o → h0.get? c = some o) → Vals (rgV a b) acc.toList → ∀ h', IsComb h' (h0.objs.size + 1) h0.objs.size (if r > acc.size then 2 else 0) .none (List.range r) → IsTup h' h0.objs.size acc → (∀ c o, h0.get? c = some o → h'.get? c = some o) → R (.ok (.ret (.ref (h0.objs.size + 1)))) { s with heap := h', toks := tk }) :=
  .of_wp fun prog w A R s ⟨hh, hr, hv, h⟩ => by
    obtain ⟨b1, b2, b3, b4, b5⟩ := ok
    refine comb_new hr (collect_range (n := (b - a).toNat) hh hv (small_one b1 b2 b3 b4) (rangeSize_nat a b) b5 fun h0 tk acc k hi => ⟨?_, fun h' a1 a2 a3 => ?_⟩)
    · have := (vals_rg hi).length
      rw [rgV_length] at this
      rw [← this]
      unfold sizeLine
      omega
    · simp only [Array.length_toList, Array.toArray_toList] at a1 a2
      exact h h0 tk acc k (vals_rg hi) h' a1 a2 a3
theorem call_comb_rng {v : Addr} {r : Nat} {t : PySem.Tok} {a b : Int} {t1 t2 t3 : PySem.Tok} {Q : Value → Shared → Prop} (ok : RgOk a b) (hh : A.handled = none) (hr : r ≤ 1000000) (hv : IsRange s.heap v a b 1 t1 t2 t3)
    (h : ∀ (h0 : Heap) (tk : Nat) (acc : Array Value), (∀ c o, s.heap.get? c = some o → h0.get? c = some o) → Vals (rgV a b) acc.toList → ∀ h', IsComb h' (h0.objs.size + 1) h0.objs.size (if r > acc.size then 2 else 0) .none (List.range r) → IsTup h' h0.objs.size acc → (∀ c o, h0.get? c = some o → h'.get? c = some o) → Q (.ref (h0.objs.size + 1)) { s with heap := h', toks := tk }) :
    wpAny (model prog w) A (call (.type "itertools.combinations") [.ref v, .int (r : Int) t]) Q E s := by
  refine callType_new FC.called_comb (by decide) (FC.typeCall_comb_2 _ _) (FC.newCall_comb_2 _ _) (fun obj => F.args_object_init_3 obj _ _) FC.entry_comb_new
    (meets_comb_rng v r t a b t1 t2 t3 ok) ⟨hh, hr, hv, fun h0 tk acc k va h' a1 a2 a3 => ?_⟩
  exact ⟨⟨_, a1, rfl⟩, h h0 tk acc k va h' a1 a2 a3⟩
end
/-- a list, a tuple or a range, told as its items -/
def PoolAt (K : PySem.W.Frag) (H : Hp) (a : Addr) (xs : List V) : Prop := SqL K H a xs ∨ SqT K H a xs ∨ ∃ lo hi, H a = some (.rng lo hi) ∧ RgOk lo hi ∧ xs = rgV lo hi
def iCmbA (K : PySem.W.Frag) (ta : TA) : TI := fun σ H R => ta σ H fun vs H1 => ∃ (a : Addr) (r : Nat) (xs : List V) (L : List (List Nat)), vs = [.ref a, .int (r : Int)] ∧ PoolAt K H1 a xs ∧ r ≤ 1000000 ∧ combE xs.length r = some L ∧ R (Itc xs L) H1
theorem pi_cmbA {X : Cx} {e e2 tg : Expr} {ta : TA} {p pos : PySem.Pos} {x : PySem.Str} (hg : Gl X x) (hm : X.mg x = some (.type "itertools.combinations")) (ha : PA X [e, e2] ta) (hc : X.calm = true) (hdb : (x == ("__debug__" : Str)) = false := by decide)
    (hs : starEach [e, e2] X.env = (false, eval e X.env) :: starEach [e2] X.env := by rfl) (hpl : (backTo pos (starEach [e2] X.env)).any (·.1) = false := by rfl) :
    PI X tg (.Call (.Name x p) [e, e2] [] pos) (iCmbA X.K ta) := by
  refine ⟨fun pins s σ H R I h => ?_⟩
  refine wpAny_Call_Name_kw (ld_glob I hg hm ?_ hdb)
  refine PyProof.Rows.callWith_type1 (thn (ha.run pos pins s σ H _ I h) fun us s1 ⟨vs, H1, I1, r1, q1⟩ => ?_) hs hpl
  obtain ⟨a, r, xs, L, rfl, pool, hr, hL, q⟩ := q1
  cases r1 with
  | cons r1 rr =>
    cases rr with
    | cons r2 rr =>
      cases rr
      cases r1
      obtain ⟨t, rfl⟩ := r2
      -- behind the call
      have fin : ∀ {h0 h' : Heap} {tk : Nat} {its : List Value} , (∀ c o, s1.heap.get? c = some o → h0.get? c = some o) → Vals xs its → IsComb h' (h0.objs.size + 1) h0.objs.size (if r > its.toArray.size then 2 else 0) .none (List.range r) → IsTup h' h0.objs.size its.toArray → (∀ c o, h0.get? c = some o → h'.get? c = some o) →
          wpAny (model X.prog X.w) X.A (pyIter (.ref (h0.objs.size + 1))) (fun itv s2 => ∃ (it : Addr) (fp : List Addr) (tn : Nat → Heap → Prop) (J : It) (H' : Hp), itv = .ref it ∧ Inv X pins σ H' s2 ∧ Turn X.prog X.w X.K tg J fp it tn ∧ tn 0 s2.heap ∧ (∀ b ∈ fp, FpOk X pins H' b) ∧ R J H') X.xe { s1 with heap := h', toks := tk } := fun {h0 h' tk its} k rv hz hP k2 => by
        refine pyIter_comb hz ?_
        have I2 : Inv X pins σ H1 { s1 with heap := h0, toks := tk } := I1.kept (t' := tk) k
        have I3 : Inv X pins σ H1 { s1 with heap := h', toks := tk } := I2.kept (t' := tk) k2
        have len := rv.length
        refine ⟨h0.objs.size + 1, [h0.objs.size + 1, h0.objs.size], _, Itc xs L, H1, rfl, I3, turn_comb (by omega) rv hr hL, ⟨?_, hP⟩, fun c hcm => ?_, q⟩
        · have hsz : its.toArray.size = xs.length := by rw [List.size_toArray, len]
          rw [hsz] at hz
          unfold cSt
          unfold combE at hL
          by_cases c : r > xs.length
          · rw [if_pos c] at hL hz
            cases hL
            rw [if_pos rfl]
            exact ⟨_, hz⟩
          · rw [if_neg c] at hL hz
            have ne : L ≠ [] := fun e => by
              have := (chC_spec hL).1
              rw [e] at this
              cases this
            rw [if_neg ne, if_pos rfl]
            exact ⟨_, hz⟩
        · have hle : h0.objs.size ≤ c := by
            have e' : c = h0.objs.size + 1 ∨ c = h0.objs.size := by simpa using hcm
            rcases e' with q' | q'
            · rw [q']; exact Nat.le_succ _
            · rw [q']; exact Nat.le_refl _
          exact I2.fpOk hle (I2.hok.fresh hle)
      rcases pool with hq | hq | ⟨lo, hi, hq, ok, rfl⟩
      · obtain ⟨its, rv, pl, hz⟩ := I1.list hq
        have len := rv.length
        obtain ⟨o, n, ho, hcl, _, hd⟩ := pl
        exact call_comb_seq (T := "list") (.inl rfl) hr (by rw [List.size_toArray, ← len]; exact hz) ho hcl hd fun h0 k h' a1 a2 a3 => fin (tk := s1.toks) k rv a1 a2 a3
      · obtain ⟨its, rv, ⟨o, ho, hcl, n, hd⟩, hz⟩ := I1.tuple hq
        have len := rv.length
        exact call_comb_seq (T := "tuple") (.inr rfl) hr (by rw [List.size_toArray, ← len]; exact hz) ho hcl hd fun h0 k h' a1 a2 a3 => fin (tk := s1.toks) k rv a1 a2 a3
      · obtain ⟨t1, t2, t3, hv⟩ := I1.hok _ _ hq
        exact call_comb_rng ok (I1.ok.hd hc) hr hv fun h0 tk acc k va h' a1 a2 a3 => fin (its := acc.toList) k va (by rw [Array.toArray_toList]; exact a1) (by rw [Array.toArray_toList]; exact a2) a3
end Zk
namespace Zk
open PySem PySem.Spec PyProof.Rows L2 RZ
section
variable {K : PySem.W.Frag} {Z Z' Z0 : Addr → Prop} {H H' H0 : Hp} {σ : L2.St} {E E' : Ev} {R R' R0 : Rs}
theorem rps_pick {vs : List V} {ds : List D} (r : Rps K Z H vs ds) : ∀ ix : List Nat, Rps K Z H (pickV vs ix) (pickD ds ix)
  | [] => .nil
  | i :: ix => by
    refine .cons ?_ (rps_pick r ix)
    show Rp K Z H (vs.getD i .non) (ds.getD i .non)
    have l := r.len
    by_cases h : i < vs.length
    · obtain ⟨d, hd, rd⟩ := r.get (List.getElem?_eq_getElem h)
      rw [List.getD_eq_getElem?_getD, List.getD_eq_getElem?_getD, List.getElem?_eq_getElem h, hd]
      exact rd
    · rw [List.getD_eq_getElem?_getD, List.getD_eq_getElem?_getD, List.getElem?_eq_none (by omega), List.getElem?_eq_none (by omega)]
      exact .non
def cmbD (ds : List D) (L : List (List Nat)) : List D := L.map fun ix => .tup (pickD ds ix)
theorem iok_cmb {vs : List V} {ds : List D} {L : List (List Nat)} (r : Rps K Z H vs ds) : IOk K (Itc vs L) (cmbD ds L) Z H where
  go := fun Z2 H2 i p hi => by
    have : i < L.length := by unfold cmbD at hi; rwa [List.length_map] at hi
    exact this
  stop := fun Z2 H2 p => by
    show L.length ≤ (cmbD ds L).length
    unfold cmbD
    rw [List.length_map]
    exact Nat.le_refl _
  yld := fun Z2 H2 i x H3 p hi y => by
    obtain ⟨T, ix, rfl, hT, hx, rfl⟩ := y
    have m : More H2 (upd H2 T (.tup (pickV vs ix))) := .upd hT
    refine ⟨m, .tup (pickD ds ix), ?_, .tup upd_same (rps_pick ((r.pers p).pers (m.pers fun _ h => h)) ix)⟩
    unfold cmbD
    rw [List.getElem?_map, hx]; rfl
def rOk (r : Int) : Bool := decide (0 ≤ r) && decide (r ≤ 1000000)
/-- choices out of a list or a tuple -/
def mCmb (f g : Fe) : Fi := fun E => (mAc f (mAc g mA0) E).bind fun p => (tkL p.2 p.1).bind fun q => match q.1 with
  | [(.lst ds, _), (.int r, _)] => if rOk r = true then (combE ds.length r.toNat).map fun L => (cmbD ds L, q.2) else none
  | [(.tup ds, _), (.int r, _)] => if rOk r = true then (combE ds.length r.toNat).map fun L => (cmbD ds L, q.2) else none
  | _ => none
theorem cmb_of {f g : Fe} {Rk : It → Hp → Prop} (q : iOf K (mCmb f g) σ H Rk) : iCmbA K (aOf K (mAc f (mAc g mA0))) σ H Rk := by
  obtain ⟨Z, E, R, s, its, E', e, q⟩ := q
  unfold mCmb at e
  cases e1 : mAc f (mAc g mA0) E with
  | none => rw [e1] at e; cases e
  | some p =>
    obtain ⟨os, E1⟩ := p
    rw [e1] at e
    simp only [Option.bind_some] at e
    cases e2 : tkL E1 os with
    | none => rw [e2] at e; cases e
    | some p2 =>
      obtain ⟨ds, E2⟩ := p2
      rw [e2] at e
      simp only [Option.bind_some] at e
      refine ⟨Z, E, R, s, os, E1, e1, fun vs Z1 H1 R1 rss s1 t1 a1 f1 => ?_⟩
      obtain ⟨Z2, R2, s2, t2, rp⟩ := s1.takeLFrz t1 a1 f1 e2
      split at e
      · rename_i xs n1 r n2
        split at e
        · rename_i hr
          unfold rOk at hr
          simp at hr
          cases eL : combE xs.length r.toNat with
          | none => rw [eL] at e; cases e
          | some L =>
            rw [eL] at e
            cases e
            obtain ⟨v, u, rfl, r1, r2⟩ := rp.two
            cases Rp.intE r2
            cases r1 with
            | lst z1 h1 x1 =>
              refine ⟨_, r.toNat, _, L, by rw [Int.toNat_of_nonneg hr.1], .inl (.inl (.inl h1)), by omega, by rw [x1.len]; exact eL, q _ Z2 H1 R2 s2 t2 (iok_cmb x1)⟩
        · cases e
      · rename_i xs n1 r n2
        split at e
        · rename_i hr
          unfold rOk at hr
          simp at hr
          cases eL : combE xs.length r.toNat with
          | none => rw [eL] at e; cases e
          | some L =>
            rw [eL] at e
            cases e
            obtain ⟨v, u, rfl, r1, r2⟩ := rp.two
            cases Rp.intE r2
            cases r1 with
            | tup h1 x1 =>
              refine ⟨_, r.toNat, _, L, by rw [Int.toNat_of_nonneg hr.1], .inr (.inl (.of h1)), by omega, by rw [x1.len]; exact eL, q _ Z2 H1 R2 s2 t2 (iok_cmb x1)⟩
        · cases e
      · cases e
def rRng : List V → Hp → VK → Prop := fun vs H Q => ∃ a b, (vs = [V.int b] ∧ a = 0 ∨ vs = [V.int a, V.int b]) ∧ ∀ p, H p = none → Q (.ref p) (upd H p (.rng a b))
def bndD : List D → Option (Int × Int)
  | [.int b] => some (0, b)
  | [.int a, .int b] => some (a, b)
  | _ => none
def rgB (a b : Int) : Bool := decide (-(2 ^ 62) ≤ a) && decide (a < 2 ^ 62) && decide (-(2 ^ 62) ≤ b) && decide (b < 2 ^ 62) && decide ((b - a).toNat ≤ 2 ^ 24)
theorem rgB_ok {a b : Int} (h : rgB a b = true) : RgOk a b := by
  unfold rgB at h
  simp only [Bool.and_eq_true, decide_eq_true_eq] at h
  exact ⟨h.1.1.1.1, h.1.1.1.2, h.1.1.2, h.1.2, h.2⟩
def rgDs (a b : Int) : List D := (List.range (b - a).toNat).map fun i : Nat => D.int (a + (i : Nat))
theorem rps_rg (a b : Int) : Rps K Z H (rgV a b) (rgDs a b) := by
  have e1 : rgV a b = ((List.range (b - a).toNat).map fun i : Nat => a + (i : Int)).map V.int := by unfold rgV; rw [List.map_map]; rfl
  have e2 : rgDs a b = ((List.range (b - a).toNat).map fun i : Nat => a + (i : Int)).map D.int := by unfold rgDs; rw [List.map_map]; rfl
  rw [e1, e2]
  exact Rps.ofInts _
/-- choices out of a range -/
def mCmbR (fb : Fa) (g : Fe) : Fi := fun E => (fb E).bind fun p => (tkL p.2 p.1).bind fun q => (bndD (q.1.map (·.1))).bind fun ab => (g q.2).bind fun p2 => (tk p2.2 p2.1).bind fun q2 => match q2.1 with
  | .int r => if rOk r = true ∧ rgB ab.1 ab.2 = true then (combE (ab.2 - ab.1).toNat r.toNat).map fun L => (cmbD (rgDs ab.1 ab.2) L, q2.2.2) else none
  | _ => none
theorem cmbR_of {fb : Fa} {g : Fe} {Rk : It → Hp → Prop} (q : iOf K (mCmbR fb g) σ H Rk) : iCmbA K (tCons (tCB rRng (aOf K fb)) (tCons (eOf K g) tNil)) σ H Rk := by
  obtain ⟨Z, E, R, s, its, E', e, q⟩ := q
  unfold mCmbR at e
  cases e1 : fb E with
  | none => rw [e1] at e; cases e
  | some p =>
    obtain ⟨os, E1⟩ := p
    rw [e1] at e
    simp only [Option.bind_some] at e
    cases e2 : tkL E1 os with
    | none => rw [e2] at e; cases e
    | some p2 =>
      obtain ⟨ds, E2⟩ := p2
      rw [e2] at e
      simp only [Option.bind_some] at e
      cases e3 : bndD (ds.map (·.1)) with
      | none => rw [e3] at e; cases e
      | some ab =>
        obtain ⟨a, b⟩ := ab
        rw [e3] at e
        simp only [Option.bind_some] at e
        cases e4 : g E2 with
        | none => rw [e4] at e; cases e
        | some p4 =>
          obtain ⟨o4, E4⟩ := p4
          rw [e4] at e
          simp only [Option.bind_some] at e
          cases e5 : tk E4 o4 with
          | none => rw [e5] at e; cases e
          | some p5 =>
            obtain ⟨d5, n5, E5⟩ := p5
            rw [e5] at e
            simp only [Option.bind_some] at e
            split at e
            · rename_i r
              split at e
              · rename_i hr
                cases eL : combE (b - a).toNat r.toNat with
                | none => rw [eL] at e; cases e
                | some L =>
                  rw [eL] at e
                  cases e
                  refine ⟨Z, E, R, s, os, E1, e1, fun vs Z1 H1 R1 rss s1 t1 a1 f1 => ?_⟩
                  obtain ⟨Z2, R2, s2, t2, rp⟩ := s1.takeLFrz t1 a1 f1 e2
                  have hb : vs = [V.int b] ∧ a = 0 ∨ vs = [V.int a, V.int b] := by
                    generalize ds.map (·.1) = dl at *
                    unfold bndD at e3
                    split at e3
                    · cases e3
                      obtain ⟨x, rfl, rx⟩ := rp.one
                      exact .inl ⟨by rw [Rp.intE rx], rfl⟩
                    · cases e3
                      obtain ⟨x, y, rfl, rx, ry⟩ := rp.two
                      exact .inr (by rw [Rp.intE rx, Rp.intE ry])
                    · cases e3
                  refine ⟨a, b, hb, fun p hp => ?_⟩
                  have m : More H1 (upd H1 p (.rng a b)) := .upd hp
                  have np : ¬ ow R2 p := fun h => s2.there h hp
                  refine ⟨Z2, E2, R2, s2.more m, o4, E4, e4, fun v Z3 H3 R3 rs3 s3 t3 ov3 f3 => ?_⟩
                  obtain ⟨rd3, e45⟩ := tk_int e5
                  subst e45
                  have ev := (s3.read ov3 rd3).intE
                  obtain ⟨hr1, hr2⟩ := hr
                  unfold rOk at hr1
                  simp at hr1
                  show ∃ (a : Addr) (r : Nat) (xs : List V) (L : List (List Nat)), _
                  refine ⟨p, r.toNat, rgV a b, L, by rw [ev, Int.toNat_of_nonneg hr1.1], .inr (.inr ⟨a, b, t3.hh p _ upd_same np, rgB_ok hr2, rfl⟩), by omega, by rw [rgV_length]; exact eL, q _ Z3 H3 R3 s3 (t2.trans ((m.step (ow R2)).trans t3)) (iok_cmb (rps_rg a b))⟩
              · cases e
            · cases e
end
section
variable {X : Cx} {e e1 e2 tg : Expr} {es : List Expr} {f g : Fe} {fb : Fa} {p p2 pos pos2 : PySem.Pos} {x : PySem.Str}
theorem cr_rng1 : CallR X (.type "range") fun vs H Q => ∃ b, vs = [V.int b] ∧ ∀ p, H p = none → Q (.ref p) (upd H p (.rng 0 b)) := by
  intro pins s σ H vs us Q I r h
  obtain ⟨b, rfl, q⟩ := h
  cases r with
  | cons r1 rr =>
    cases rr
    obtain ⟨t, rfl⟩ := r1
    refine call_range_1 ⟨.ref s.heap.objs.size, upd H s.heap.objs.size (.rng 0 b), I.laid (t' := s.toks + 1 + 1) (fun b o e => Heap.get?_push_of_some _ e) (Nat.le_refl _) ?_, rfl, q _ (I.hok.fresh (Nat.le_refl _))⟩
    exact ⟨s.toks, t, s.toks + 1, Heap.get?_push_size _ rfl⟩
theorem cr_rng : CallR X (.type "range") rRng := by
  intro pins s σ H vs us Q I r h
  obtain ⟨a, b, h, q⟩ := h
  rcases h with ⟨rfl, rfl⟩ | rfl
  · exact cr_rng1 pins s σ H _ us Q I r ⟨b, rfl, q⟩
  · exact cr_range2 pins s σ H _ us Q I r ⟨a, b, rfl, q⟩
theorem ai_cmb (ha : AE X e f) (hb : AE X e2 g) (hg : Gl X x) (hm : X.mg x = some (.type "itertools.combinations")) (hc : X.calm = true := by rfl) (hdb : (x == ("__debug__" : Str)) = false := by decide)
    (hs : starEach [e, e2] X.env = (false, eval e X.env) :: starEach [e2] X.env := by rfl) (hs2 : starEach [e2] X.env = (false, eval e2 X.env) :: starEach [] X.env := by rfl) (hpl : (backTo pos (starEach [e2] X.env)).any (·.1) = false := by rfl) :
    AI X tg (.Call (.Name x p) [e, e2] [] pos) (mCmb f g) :=
  PI.mono (pi_cmbA hg hm (aa_cons ha (aa_cons hb aa_nil hs2) hs) hc hdb hs hpl) fun _ _ _ q => cmb_of q
theorem ai_cmbR (hb : AA X (e1 :: es) fb) (he : AE X e2 g) (hg : Gl X x) (hm : X.mg x = some (.type "itertools.combinations")) (hg2 : Gl X "range") (hm2 : X.mg "range" = none) (hc : X.calm = true := by rfl) (hdb : (x == ("__debug__" : Str)) = false := by decide)
    (hs0 : starEach (e1 :: es) X.env = (false, eval e1 X.env) :: starEach es X.env := by rfl) (hpl0 : (backTo pos2 (starEach es X.env)).any (·.1) = false := by rfl)
    (hs : starEach [.Call (.Name "range" p2) (e1 :: es) [] pos2, e2] X.env = (false, eval (.Call (.Name "range" p2) (e1 :: es) [] pos2) X.env) :: starEach [e2] X.env := by rfl) (hs2 : starEach [e2] X.env = (false, eval e2 X.env) :: starEach [] X.env := by rfl) (hpl : (backTo pos (starEach [e2] X.env)).any (·.1) = false := by rfl) :
    AI X tg (.Call (.Name x p) [.Call (.Name "range" p2) (e1 :: es) [] pos2, e2] [] pos) (mCmbR fb g) :=
  PI.mono (pi_cmbA hg hm (pa_cons (pe_callTy cr_rng hg2 hm2 boot_range hb (by decide) (by decide) hs0 hpl0) (pa_cons he pa_nil hs2) hs) hc hdb hs hpl) fun _ _ _ q => cmbR_of q
end
end Zk
namespace Zk
open PySem PySem.Spec PyProof.Rows L2 RZ
@[simp ↓] theorem W_cmb {a b : Fe} {E : Ev} {Q : List D × Ev → Prop} : W (mCmb a b E) Q ↔ W (a E) fun p => W (b p.2) fun p2 => W (tkL p2.2 [p.1, p2.1]) fun q => (match q.1 with
    | [(.lst ds, _), (.int r, _)] => rOk r = true ∧ W (combE ds.length r.toNat) fun L => Q (cmbD ds L, q.2)
    | [(.tup ds, _), (.int r, _)] => rOk r = true ∧ W (combE ds.length r.toNat) fun L => Q (cmbD ds L, q.2)
    | _ => False) := by
  unfold mCmb
  refine W_bind.trans ?_
  simp only [W_ac, W_a0]
  refine W_ext fun p => ?_
  simp only [W_ac, W_a0]
  refine W_ext fun p2 => ?_
  refine W_a0.trans ?_
  refine W_bind.trans (W_ext fun q => ?_)
  obtain ⟨ls, E2⟩ := q
  rcases ls with _ | ⟨⟨d, n1⟩, ls⟩
  · simp
  rcases ls with _ | ⟨⟨d2, n2⟩, ls⟩
  · cases d <;> simp
  rcases ls with _ | ⟨x, ls⟩
  · cases d <;> cases d2 <;> first | exact W_if1.trans (and_congr_right fun _ => W_map) | simp
  · cases d <;> cases d2 <;> simp
@[simp ↓] theorem W_cmbR {fb : Fa} {g : Fe} {E : Ev} {Q : List D × Ev → Prop} : W (mCmbR fb g E) Q ↔ W (fb E) fun p => W (tkL p.2 p.1) fun q => W (bndD (q.1.map (·.1))) fun ab => W (g q.2) fun p2 => W (tk p2.2 p2.1) fun q2 => (match q2.1 with
    | .int r => (rOk r = true ∧ rgB ab.1 ab.2 = true) ∧ W (combE (ab.2 - ab.1).toNat r.toNat) fun L => Q (cmbD (rgDs ab.1 ab.2) L, q2.2.2)
    | _ => False) := by
  unfold mCmbR
  refine W_bind.trans (W_ext fun p => W_bind.trans (W_ext fun q => W_bind.trans (W_ext fun ab => W_bind.trans (W_ext fun p2 => W_bind.trans (W_ext fun q2 => ?_)))))
  obtain ⟨d, n, E2⟩ := q2
  cases d with
  | int r => exact W_if1.trans (and_congr_right fun _ => W_map)
  | _ => simp
@[simp] theorem bndD_1 (b : Int) : bndD [.int b] = some (0, b) := rfl
@[simp] theorem bndD_2 (a b : Int) : bndD [.int a, .int b] = some (a, b) := rfl
theorem rOk_n {r : Nat} (h : r ≤ 1000000) : rOk (r : Int) = true := by
  unfold rOk
  simp
  omega
theorem rgB_n {a b : Int} (h0 : 0 ≤ a) (h1 : b ≤ 16777216) (h2 : a ≤ 16777216) (h3 : 0 ≤ b) : rgB a b = true := by
  unfold rgB
  simp only [Bool.and_eq_true, decide_eq_true_eq]
  omega
end Zk
namespace Zk
noncomputable section
open PySem PySem.Spec PyProof.Rows L2
def S_law_setb : Fs := (mSeq (mSet 3 (mLst mA0)) (mSeq (mFor (mRg1 (mCall (some 0) S_law_take (mAc (mVar 0) (mAc (mAdd (mVar 2) (mC (.int 1))) mA0)))) (tgV 4) (mSeq (mSet 5 (mCall (some 0) S_law_take (mAc (mVar 0) (mAc (mVar 1) mA0)))) (mIfS (mB (mNotIn (mVar 5) (mVar 3))) (mEx (mApp 3 (mVar 5))) mNx))) (mRet (mOp gTuple (mAc (mSrt (mVar 3)) mA0)))))
def S_law_set : Mir := mDef (some 0) 6 S_law_setb
end
end Zk
namespace Zk
noncomputable section
open PySem PySem.Spec PyProof.Rows L2
def v2 (p : Nat) (q : Nat × Nat) (k : Nat) : Nat := (q.1 + q.2 * k) % p
section
variable {p w : Nat} {R : List (Nat × Nat)}
end
end
end Zk
namespace Zk
noncomputable section
open PySem PySem.Spec PyProof.Rows L2
section
variable {p w : Nat} {R : List (Nat × Nat)}
theorem tN_tI (ks : List Nat) : tN ks = tI (ks.map fun k : Nat => (k : Int)) := by
  unfold tN tI
  rw [List.map_map]; rfl
theorem gInA_tN (neg : Bool) (q : Nat) (ks : List Nat) (h : ks.length ≤ 16777216) : gInA neg [.int (q : Int), tN ks] = some (.bl (decide (q ∈ ks) ^^ neg), 9) := by
  rw [tN_tI, tI, gInA_tup neg _ _ (by rw [sizeL]; simpa using h)]
  have : ((q : Int) ∈ ks.map fun c : Nat => (c : Int)) ↔ q ∈ ks := by
    constructor
    · intro h
      obtain ⟨c, hc, e⟩ := List.mem_map.mp h
      have : c = q := by omega
      rw [← this]; exact hc
    · intro h; exact List.mem_map.mpr ⟨q, h, rfl⟩
  simp only [this]
end
theorem toN_back {xs : List Int} (h : ∀ x ∈ xs, ∃ c : Nat, x = (c : Int)) : (xs.map Int.toNat).map (fun c : Nat => (c : Int)) = xs := by
  rw [List.map_map]
  conv => rhs; rw [← List.map_id xs]
  refine List.map_congr_left fun x hx => ?_
  obtain ⟨c, rfl⟩ := h x hx
  simp
/-- draws of keys -/
theorem law_set_W (s : List Int) (top many : Nat) (h0 : 0 < top) (h1 : many ≤ 1000000) : W (S_law_set [dr s, .int (top : Int), .int (many : Int)]) fun r => ∃ (ks : List Nat) (s' : List Int), r = (tN ks, 9, dr s') ∧ ks.Nodup ∧ (∀ k ∈ ks, k < top) ∧ ks.length ≤ many ∧ ks.Pairwise (· ≤ ·) := by
  refine W_O fun Q' hQ => ?_
  unfold S_law_set S_law_setb
  rw [W_mDef]
  have e1 : (0 : Int) < (many : Int) + 1 := by omega
  obtain ⟨v, ev, hv⟩ := dvN s ((many : Int) + 1) e1
  have rk : rgOk (v : Int) := ⟨by omega, by omega⟩
  have ht : (0 : Int) < top := by omega
  have htn : 0 < top := h0
  (refine Zk.W_seqE (E1 := ?wE95) ?wa95 ?wb95; (case wa95 => (simp (disch := first | assumption | (simp; done) | omega) [ent0_def]; exact rfl)))
  (refine Zk.W_forN ?wE259 v [4, 5] (fun (c : List Int × List Nat) _ => [(0, some (dr c.1, 1)), (3, some (.lst (c.2.map iN), 9))]) (fun c k => c.2.Nodup ∧ (∀ k ∈ c.2, k < top) ∧ c.2.length ≤ k) (s.dropLast, []) ?wa259 ?wb259 ?_ ?_ ?_; (case wa259 => (simp (disch := first | assumption | (simp; done) | omega) [dem1, ev, rk, e1]; exact rfl)); (case wb259 => (simp (disch := first | assumption | (simp; done) | omega) [Zk.sets, dem1, ev, rk, e1])))
  · simp
  · rintro ⟨s, fs⟩ j I' hj ⟨f1, f2, f3⟩ hI
    simp only [Zk.AllU, Zk.sets, List.set_cons_succ, List.set_cons_zero, List.set_nil] at *
    intro u4 u5
    refine W_tgV.mpr ⟨by simp, ?_⟩
    obtain ⟨x, ex, hx⟩ := dvN s (top : Int) ht
    (refine Zk.W_seqE (E1 := ?wE96) ?wa96 ?wb96; (case wa96 => (simp (disch := first | assumption | (simp; done) | omega) [dem1, ex, htn]; exact rfl)))
    have gi := gInA_nats true x fs
    have im : imms (fs.map iN) = true := imms_map' (fun _ => by simp [iN]) _
    have sz : fs.length < 16777216 := by omega
    by_cases c : x ∈ fs
    · rw [decide_eq_true c] at gi
      simp (disch := first | assumption | (simp; done) | omega) [gi, im]
      have := hI (s.dropLast, fs) ⟨f1, f2, by simp only; omega⟩
      simp only at this
      apply this
    · rw [decide_eq_false c] at gi
      simp (disch := first | assumption | (simp; done) | omega) [gi, im, sz]
      have := hI (s.dropLast, fs ++ [x]) ⟨by
        simp only
        refine List.nodup_append.mpr ⟨f1, by simp, fun a ha b hb e => ?_⟩
        have : b = x := by simpa using hb
        exact c (by rw [← this, ← e]; exact ha), fun k hk => by
        rcases List.mem_append.mp hk with h | h
        · exact f2 k h
        · have : k = x := by simpa using h
          omega, by simp; omega⟩
      simp only [List.map_append, List.map_cons, List.map_nil] at this
      apply this
  · rintro ⟨s, fs⟩ ⟨f1, f2, f3⟩
    simp only [Zk.AllU, Zk.sets, List.set_cons_succ, List.set_cons_zero, List.set_nil] at *
    intro u4 u5
    have eg1 : fs.map iN = (fs.map fun c : Nat => (c : Int)).map D.int := by rw [List.map_map]; rfl
    have gs : gSrt1 [.lst (fs.map iN)] = some (.lst ((srt (fs.map fun c : Nat => (c : Int))).map D.int), 9) := by rw [eg1]; simp [-List.map_map]
    have im : imms (fs.map iN) = true := imms_map' (fun _ => by simp [iN]) _
    have ek : tN ((srt (fs.map fun c : Nat => (c : Int))).map Int.toNat) = .tup ((srt (fs.map fun c : Nat => (c : Int))).map D.int) := by
      rw [tN_tI, tI, toN_back fun x hx => ?_]
      obtain ⟨c, _, rfl⟩ := List.mem_map.mp ((srt_perm _).mem_iff.mp hx)
      exact ⟨c, rfl⟩
    have pm : ((srt (fs.map fun c : Nat => (c : Int))).map Int.toNat).Perm fs := by
      refine ((srt_perm _).map _).trans (.of_eq ?_)
      rw [List.map_map]
      conv => rhs; rw [← List.map_id fs]
      exact List.map_congr_left fun x _ => by simp
    simp (disch := first | assumption | (simp; done) | omega) [gs, im]
    refine hQ _ ⟨(srt (fs.map fun c : Nat => (c : Int))).map Int.toNat, s, by rw [ek], pm.nodup_iff.mpr f1, fun k hk => f2 k (pm.mem_iff.mp hk), by rw [pm.length_eq]; omega, ?_⟩
    refine List.pairwise_map.mpr ((srt_pair _).imp fun h => ?_)
    omega
end
end Zk
namespace Zk
noncomputable section
open PySem PySem.Spec PyProof.Rows L2
end
end Zk
namespace Zk
noncomputable section
open PySem PySem.Spec PyProof.Rows L2
section
variable {p w : Nat} {R : List (Nat × Nat)}
end
end
end Zk
namespace Zk
noncomputable section
open PySem PySem.Spec PyProof.Rows L2
end
end Zk
namespace Zk
noncomputable section
open PySem PySem.Spec PyProof.Rows L2
section
variable {p w : Nat} {R : List (Nat × Nat)}
end
end
end Zk
namespace Zk
noncomputable section
open PySem PySem.Spec PyProof.Rows L2
section
variable {p w : Nat}
/-- how many keys are told though they are not there, by a draw -/
def fcL (p w : Nat) (ks : List Nat) (q : Nat × Nat) (n : Nat) : List Nat := (List.range n).filter fun k => decide (k ∉ ks) && decide (∃ j ∈ ks, v2 p q j % w = v2 p q k % w)
def fc (p w : Nat) (ks : List Nat) (q : Nat × Nat) : Int := ((fcL p w ks q p).length : Nat)
end
end
end Zk
namespace Zk
noncomputable section
open PySem PySem.Spec PyProof.Rows L2
section
variable {p w : Nat}
end
end
end Zk
namespace Zk
noncomputable section
open PySem PySem.Spec PyProof.Rows L2
end
end Zk
namespace Zk
noncomputable section
open PySem PySem.Spec PyProof.Rows L2
/-- the part of place x behind n goes, by bases c and d -/
def PB (c d : Int) : Nat → Nat → Int
  | 0, x => if x = 0 then 1 else 0
  | n + 1, 0 => PB c d n 0 * (c ^ n - d ^ 0 * c ^ n)
  | n + 1, x + 1 => (if x + 1 ≤ n then PB c d n (x + 1) * (c ^ n - d ^ (x + 1) * c ^ (n - (x + 1))) else 0) + (if x ≤ n then PB c d n x * (d ^ x * c ^ (n - x)) else 0)
end
end Zk
namespace Zk
noncomputable section
open PySem PySem.Spec PyProof.Rows L2
theorem pow_le_l {a b : Int} (ha : 0 ≤ a) (h : a ≤ b) : ∀ n : Nat, a ^ n ≤ b ^ n
  | 0 => by simp
  | n + 1 => by
    rw [Int.pow_succ, Int.pow_succ]
    have h1 := pow_le_l ha h n
    have h2 : 0 ≤ a ^ n := Int.pow_nonneg ha
    exact Int.le_trans (Int.mul_le_mul_of_nonneg_right h1 ha) (Int.mul_le_mul_of_nonneg_left h (Int.le_trans h2 h1))
structure CD (c d : Int) : Prop where
  d1 : 1 ≤ d
  dc : d ≤ c
  c20 : c ≤ 2 ^ 20
section
variable {c d : Int}
theorem CD.c0 (h : CD c d) : 0 ≤ c := by have := h.d1; have := h.dc; omega
theorem CD.cp (h : CD c d) (n : Nat) : 1 ≤ c ^ n := by
  have : 0 < c ^ n := Int.pow_pos (by have := h.d1; have := h.dc; omega)
  omega
theorem CD.dp (h : CD c d) (n : Nat) : 1 ≤ d ^ n := by
  have : 0 < d ^ n := Int.pow_pos (by have := h.d1; omega)
  omega
theorem CD.dle (h : CD c d) (n : Nat) : d ^ n ≤ c ^ n := pow_le_l (by have := h.d1; omega) h.dc n
theorem CD.on (h : CD c d) {n x : Nat} (hx : x ≤ n) : 0 ≤ d ^ x * c ^ (n - x) ∧ d ^ x * c ^ (n - x) ≤ c ^ n := by
  have a1 : c ^ n = c ^ x * c ^ (n - x) := by rw [← Int.pow_add]; congr 1; omega
  have := h.cp (n - x)
  have := h.dp x
  refine ⟨Int.mul_nonneg (by omega) (by omega), ?_⟩
  rw [a1]
  exact Int.mul_le_mul_of_nonneg_right (h.dle x) (by omega)
theorem CD.cb (h : CD c d) {n : Nat} (hn : n ≤ 1000) : (c ^ n).natAbs ≤ 2 ^ 20000 := by
  have h1 : c ^ n ≤ (2 ^ 20) ^ n := pow_le_l h.c0 h.c20 n
  have h2 : ((2 : Int) ^ 20) ^ n = ((2 ^ (20 * n) : Nat) : Int) := by rw [← Int.pow_mul, Int.natCast_pow]; rfl
  have h3 : 2 ^ (20 * n) ≤ 2 ^ 20000 := Nat.pow_le_pow_right (by decide) (by omega)
  have := h.cp n
  generalize (2 : Nat) ^ 20000 = G at *
  omega
end
end
end Zk
namespace Zk
noncomputable section
open PySem PySem.Spec PyProof.Rows L2
section
variable {c d : Int} {n : Nat}
theorem CD.ca (h : CD c d) {j : Nat} (hj : j ≤ 40) : (c ^ j).natAbs ≤ 2 ^ 800 := by
  have h1 : c ^ j ≤ (2 ^ 20) ^ j := pow_le_l h.c0 h.c20 j
  have h2 : ((2 : Int) ^ 20) ^ j = ((2 ^ (20 * j) : Nat) : Int) := by rw [← Int.pow_mul, Int.natCast_pow]; rfl
  have h3 : 2 ^ (20 * j) ≤ 2 ^ 800 := Nat.pow_le_pow_right (by decide) (by omega)
  have := h.cp j
  generalize (2 : Nat) ^ 800 = G at *
  omega
theorem cd21 : CD 2 1 := ⟨by decide, by decide, by decide⟩
theorem CD.self (h : CD c d) : CD d d := ⟨h.d1, Int.le_refl _, by have := h.dc; have := h.c20; omega⟩
end
end
end Zk
namespace Zk
noncomputable section
open PySem PySem.Spec PyProof.Rows L2
section
variable {m : Nat} {c : Nat → Nat → Int}
end
end
end Zk
namespace Zk
noncomputable section
open PySem PySem.Spec PyProof.Rows L2
section
variable {m : Nat} {st : List (Int × Int)}
end
end
end Zk
namespace Zk
noncomputable section
open PySem PySem.Spec PyProof.Rows L2
section
variable {st : List (Int × Int)} {m k : Nat}
end
end
end Zk
namespace Zk
noncomputable section
open PySem PySem.Spec PyProof.Rows L2
section
variable {c d : Int} {n : Nat}
end
end
end Zk
namespace Zk
noncomputable section
open PySem PySem.Spec PyProof.Rows L2
section
variable {n : Nat}
end
section
variable {p : Nat}
end
end
end Zk
namespace Zk
noncomputable section
open PySem PySem.Spec PyProof.Rows L2
section
variable {p : Nat}
end
end
end Zk
namespace Zk
noncomputable section
open PySem PySem.Spec PyProof.Rows L2
end
end Zk
namespace Zk
noncomputable section
open PySem PySem.Spec PyProof.Rows L2
end
end Zk
namespace Zk.Bf
noncomputable section
open PySem PySem.Spec PyProof.Rows L2 Zk
/-- (2^x - 1) (2^x - 2) .. -/
def Fr (x : Nat) : Nat → Int
  | 0 => 1
  | r + 1 => Fr x r * (2 ^ x - 2 ^ r)
end
end Zk.Bf
namespace Zk.Bf
noncomputable section
open PySem PySem.Spec PyProof.Rows L2 Zk
end
end Zk.Bf
namespace Zk
noncomputable section
open PySem PySem.Spec PyProof.Rows L2
end
end Zk
namespace Zk.Bc
noncomputable section
open PySem PySem.Spec PyProof.Rows L2 Zk
end
end Zk.Bc
namespace Zk.Bc
noncomputable section
open PySem PySem.Spec PyProof.Rows L2 Zk
def okL (a : List Nat) (x : Nat) : Bool := match a.getLast? with
  | none => true
  | some y => decide (y < x)
theorem last_ix {a : List Nat} {y : Nat} (h : a.getLast? = some y) : gIxd [tN a, .int (-1)] = some (.int (y : Int), 0) := by
  unfold tN
  have hn : a ≠ [] := by rintro rfl; cases h
  have hp := List.length_pos_iff.mpr hn
  rw [gIxd_tup, gIx_tup, atI_map']
  unfold atI
  have : ixN a.length (-1) = some (a.length - 1) := by
    unfold ixN
    rw [if_neg (by decide), if_pos (by omega)]
    congr 1
    omega
  rw [this, Option.bind_some]
  rw [List.getLast?_eq_getElem?] at h
  rw [h]; rfl
end
end Zk.Bc
namespace Zk.Bc
noncomputable section
open PySem PySem.Spec PyProof.Rows L2 Zk
end
end Zk.Bc
namespace Zk.Bf
noncomputable section
open PySem PySem.Spec PyProof.Rows L2 Zk Zk.Bc
def jT (hi : Nat) : Nat → Nat → Int
  | 0, y => if y = hi then 1 else 0
  | j + 1, y => jT hi j y * (2 ^ 40 - 2 ^ (40 + j - y)) + (if 1 ≤ y then jT hi j (y - 1) * 2 ^ (40 + j - (y - 1)) else 0)
end
end Zk.Bf
namespace Zk.Bf
noncomputable section
open PySem PySem.Spec PyProof.Rows L2 Zk Zk.Bc
end
end Zk.Bf
namespace Zk.Bf
noncomputable section
open PySem PySem.Spec PyProof.Rows L2 Zk Zk.Bc
/-- the part that the places x and y give to the place z -/
def tm (n o x y z : Nat) : Int := PB 2 1 n x * PB 2 1 o y * (jT (max x y) (min x y) z * 2 ^ (160 - 40 * min x y))
end
end Zk.Bf
namespace Zk.Bf
noncomputable section
open PySem PySem.Spec PyProof.Rows L2 Zk Zk.Bc
section
variable {c d : Int} {n : Nat}
end
end
end Zk.Bf
namespace Zk.Bc
noncomputable section
open PySem PySem.Spec PyProof.Rows L2 Zk
theorem pl_tNs {T : List (List Nat)} (h : T.length < 16777216) (h2 : ∀ t ∈ T, t.length < 1000) : pl 7 (.tup (T.map tN)) = true := by
  simp only [pl, Bool.and_eq_true, decide_eq_true_eq, List.length_map, List.all_map, List.all_eq_true]
  refine ⟨fun t ht => ?_, by simpa using h⟩
  have := h2 t ht
  show pl 6 (tN t) = true
  have z : t.length < 16777216 := by omega
  simp [tN, pl, z]
end
end Zk.Bc
namespace Zk
noncomputable section
open PySem PySem.Spec PyProof.Rows L2
end
end Zk
namespace Zk
noncomputable section
open PySem PySem.Spec PyProof.Rows L2
end
end Zk
namespace Zk
noncomputable section
open PySem PySem.Spec PyProof.Rows L2
section
variable {m b : Nat}
end
end
end Zk
namespace Zk
noncomputable section
open PySem PySem.Spec PyProof.Rows L2
section
variable {m b : Nat}
end
end
end Zk
namespace Zk
noncomputable section
open PySem PySem.Spec PyProof.Rows L2
end
end Zk
namespace Zk
noncomputable section
open PySem PySem.Spec PyProof.Rows L2
end
end Zk
namespace Zk.Bg
noncomputable section
open PySem PySem.Spec PyProof.Rows L2 Zk Zk.Bc
def stepV (vs : List Nat) (T : List (List Nat)) : List (List Nat) := T.flatMap fun a => (vs.filter (okL a)).map fun x => a ++ [x]
def leftV (vs : List Nat) : Nat → List (List Nat)
  | 0 => [[]]
  | k + 1 => stepV vs (leftV vs k)
def subsV (vs : List Nat) : Nat → List (List Nat)
  | 0 => [[]]
  | k + 1 => subsV vs k ++ leftV vs (k + 1)
end
end Zk.Bg
namespace Zk.Bg
noncomputable section
open PySem PySem.Spec PyProof.Rows L2 Zk Zk.Bc Zk.Bf
def tD (xs : List Int) : D := .tup (xs.map D.int)
@[simp] theorem imm_tD (xs : List Int) : imm (tD xs) = true := by simp [tD, imms_map' (f := D.int) (fun _ => rfl) xs]
def pv (pl : List Int) (x : Nat) : Int := pl.getD x 0
theorem cut_to (xs : List Int) (k : Nat) : cutD (xs.map D.int) none (some (k : Int)) = (xs.take k).map D.int := by
  have := cut_upto (xs := xs.map D.int) (i := (k : Int)) (by omega)
  rw [Int.toNat_natCast, ← List.map_take] at this
  exact this
theorem imms_ints (xs : List Int) : imms (xs.map D.int) = true := imms_map' (f := D.int) (fun _ => rfl) xs
/-- the k least places -/
def lp (pl : List Int) (ks : List Nat) (k : Nat) : List Int := (srt (ks.map (pv pl))).take k
end
end Zk.Bg
namespace Zk.Bg
noncomputable section
open PySem PySem.Spec PyProof.Rows L2 Zk Zk.Bc Zk.Bf
end
end Zk.Bg
namespace Zk.Bg
noncomputable section
open PySem PySem.Spec PyProof.Rows L2 Zk Zk.Bc Zk.Bf
def chosen (k : Nat) (ix : List Nat) : List Int := (ix.map fun i : Nat => (i : Int) + 1).take k
def okS (r k : Nat) (ix : List Nat) : Bool := decide (r < k) || decide (2 ≤ (chosen k ix).getLastD 0) && decide ((chosen k ix).getLastD 0 ≤ 9)
section
variable {n r k : Nat}
end
end
end Zk.Bg
namespace Zk.Bg
noncomputable section
open PySem PySem.Spec PyProof.Rows L2 Zk Zk.Bc Zk.Bf
def vsn (n : Nat) : List Nat := (List.range n).map (· + 1)
def castN (a : List Nat) : List Int := a.map fun x : Nat => (x : Int)
theorem tN_tD (a : List Nat) : tN a = tD (castN a) := by unfold tN tD castN; rw [List.map_map]; rfl
theorem ckL : ∀ n, n < 7 → ∀ j, j < n + 1 → (leftV (vsn n) j).length ≤ 100 ∧ (subsV (vsn n) j).length ≤ 200 := by decide +kernel
end
end Zk.Bg
namespace Zk
noncomputable section
open PySem PySem.Spec PyProof.Rows L2
def S_small_setsb : Fs := (mSeq (mSet 2 (mLst mA0)) (mSeq (mFor (mRg1 (mAdd (mOp gMin (mAc (mVar 0) (mAc (mVar 1) mA0))) (mC (.int 1)))) (tgV 3) (mFor (mCmbR (mAc (mVar 0) mA0) (mVar 3)) (tgV 4) (mEx (mApp 2 (mVar 4))))) (mRet (mVar 2))))
def S_small_sets : Mir := mDef none 5 S_small_setsb
def S_pool_answersb : Fs := (mRet (mOp gTuple (mAc (mLc (mSq (mVar 0)) [3] (tgV 3) mYes (mIf (mTr (mOp gAny (mAc (mLc (mSq (mVar 1)) [2] (tgV 2) mYes (mIn (mVar 2) (mVar 3))) mA0))) (mC (.int 1)) (mC (.int 0)))) mA0)))
def S_pool_answers : Mir := mDef none 4 S_pool_answersb
def S_twin_setsb : Fs := (mSeq (mSet 3 mDicT) (mSeq (mSet 4 (mC .non)) (mSeq (mFor (mEnu (mCall none S_small_sets (mAc (mVar 1) (mAc (mVar 2) mA0)))) (tgT 2 (tgC (tgV 5) (tgC (tgV 6) tgN))) (mSeq (mSet 7 (mCall none S_pool_answers (mAc (mVar 0) (mAc (mVar 6) mA0)))) (mSeq (mIfS (mB (mNotIn (mVar 7) (mVar 3))) (mSeq (mPut 3 (mVar 7) (mTup (mAc (mVar 5) (mAc (mVar 6) mA0)))) mCt) mNx) (mSeq (mAsg (tgT 2 (tgC (tgV 8) (tgC (tgV 9) tgN))) (mIxd (mVar 3) (mVar 7))) (mIfS (mOrT (mB (mIsN (mVar 4))) (mB (mLt (mVar 8) (mIxd (mVar 4) (mC (.int 0)))))) (mSet 4 (mTup (mAc (mVar 8) (mAc (mTup (mAc (mVar 9) (mAc (mVar 6) mA0))) mA0)))) mNx))))) (mRet (mIf (mB (mIsN (mVar 4))) (mC .non) (mIxd (mVar 4) (mC (.int 1))))))))
def S_twin_sets : Mir := mDef none 10 S_twin_setsb
def S_law_halfb : Fs := (mSeq (mSet 2 (mLst mA0)) (mSeq (mFor (mSq (mVar 1)) (tgV 3) (mIfS (mB (mEq (mCall (some 0) S_law_take (mAc (mVar 0) (mAc (mC (.int 2)) mA0))) (mC (.int 0)))) (mEx (mApp 2 (mVar 3))) mNx)) (mRet (mVar 2))))
def S_law_half : Mir := mDef (some 0) 4 S_law_halfb
def S_law_few_setsb : Fs := (mSeq (mSet 2 (mLst (mAc (mTup mA0) mA0))) (mSeq (mSet 3 (mLst (mAc (mTup mA0) mA0))) (mSeq (mFor (mRg1 (mVar 1)) (tgV 4) (mSeq (mSet 5 (mLst mA0)) (mSeq (mFor (mSq (mVar 3)) (tgV 6) (mSeq (mSet 7 (mC (.int 0))) (mSeq (mIfS (mB (mGt (mOp gLen (mAc (mVar 6) mA0)) (mC (.int 0)))) (mSet 7 (mAdd (mIxd (mVar 6) (mNeg (mC (.int 1)))) (mC (.int 1)))) mNx) (mSet 5 (mAdd (mVar 5) (mLc (mRg2 (mVar 7) (mVar 0)) [8] (tgV 8) mYes (mAdd (mVar 6) (mTup (mAc (mVar 8) mA0))))))))) (mSeq (mSet 2 (mAdd (mVar 2) (mVar 5))) (mSet 3 (mVar 5)))))) (mRet (mVar 2)))))
def S_law_few_sets : Mir := mDef none 9 S_law_few_setsb
def S_law_saidb : Fs := (mRet (mOp gTuple (mAc (mLc (mSq (mVar 0)) [3] (tgV 3) mYes (mOp gInt (mAc (mIn (mC (.bl true)) (mLc (mSq (mVar 1)) [2] (tgV 2) mYes (mIn (mVar 2) (mVar 3)))) mA0))) mA0)))
def S_law_said : Mir := mDef none 4 S_law_saidb
def S_law_poolsb : Fs := (mSeq (mSet 3 (mLst mA0)) (mSeq (mFor (mRg1 (mCall (some 0) S_law_take (mAc (mVar 0) (mAc (mAdd (mVar 2) (mC (.int 1))) mA0)))) (tgV 4) (mSeq (mSet 5 (mOp gTuple (mAc (mCall (some 0) S_law_half (mAc (mVar 0) (mAc (mLrg1 (mVar 1)) mA0))) mA0))) (mSeq (mIfS (mB (mEq (mCall (some 0) S_law_take (mAc (mVar 0) (mAc (mC (.int 3)) mA0))) (mC (.int 0)))) (mSet 5 (mCall (some 0) S_law_set (mAc (mVar 0) (mAc (mVar 1) (mAc (mC (.int 3)) mA0))))) mNx) (mSeq (mIfS (mB (mEq (mCall (some 0) S_law_take (mAc (mVar 0) (mAc (mC (.int 12)) mA0))) (mC (.int 0)))) (mSet 5 (mCall (some 0) S_law_pick (mAc (mVar 0) (mAc (mLst (mAc (mTup mA0) (mAc (mTrg1 (mVar 1)) (mAc (mIxd (mAdd (mVar 3) (mLst (mAc (mVar 5) mA0))) (mC (.int 0))) mA0)))) mA0)))) mNx) (mEx (mApp 3 (mVar 5))))))) (mRet (mOp gTuple (mAc (mVar 3) mA0)))))
def S_law_pools : Mir := mDef (some 0) 6 S_law_poolsb
end
end Zk
namespace Zk.Bh
noncomputable section
open PySem PySem.Spec PyProof.Rows L2 Zk Zk.Bc Zk.Bf Zk.Bg
def lo (a : List Nat) : Nat := match a.getLast? with
  | some y => y + 1
  | none => 0
def stepS (n : Nat) (T : List (List Nat)) : List (List Nat) := T.flatMap fun a => (List.range (n - lo a)).map fun x => a ++ [lo a + x]
def lvl (n : Nat) : Nat → List (List Nat)
  | 0 => [[]]
  | k + 1 => stepS n (lvl n k)
def few (n : Nat) : Nat → List (List Nat)
  | 0 => [[]]
  | k + 1 => few n k ++ lvl n (k + 1)
theorem ckF : ∀ n, n < 11 → ∀ s, s < 4 → (few n s).length ≤ 200 ∧ (lvl n s).length ≤ 200 ∧ few n s = few n (min n s) ∧ (few n s).all (fun a => decide (a.length ≤ s) && decide (a.length ≤ n) && a.all (fun x => decide (x < n)) && decide ((List.range n).filter (fun k => a.contains k) = a)) = true := by decide +kernel
theorem ckC : ∀ n, n < 11 → ∀ s, s < 4 → s ≤ n → (combE n s == some (lvl n s)) = true := by decide +kernel
theorem ckI : ∀ n, n < 11 → ∀ s, s < 4 → (lvl n s).all (fun a => a.all (fun x => decide (x < n))) = true := by decide +kernel
theorem cmbs_is {n s : Nat} (hn : n < 11) (hs : s < 4) (h : s ≤ n) : combE n s = some (lvl n s) ∧ cmbD (rgDs 0 (n : Int)) (lvl n s) = (lvl n s).map tN := by
  refine ⟨by simpa using ckC n hn s hs h, ?_⟩
  have hi := List.all_eq_true.mp (ckI n hn s hs)
  unfold cmbD
  refine List.map_congr_left fun ix hx => ?_
  have hb := List.all_eq_true.mp (hi ix hx)
  unfold tN pickD
  congr 1
  refine List.map_congr_left fun i h => ?_
  have hl := of_decide_eq_true (hb i h)
  unfold rgDs
  rw [List.getD_eq_getElem?_getD, List.getElem?_map, List.getElem?_range (by omega)]
  show D.int _ = D.int _
  congr 1
  omega
def fewT (n : Nat) : Nat → List (List Nat)
  | 0 => []
  | k + 1 => fewT n k ++ lvl n k
theorem few_T (n : Nat) : ∀ s, few n s = fewT n (s + 1)
  | 0 => rfl
  | s + 1 => by
    show few n s ++ lvl n (s + 1) = fewT n (s + 1) ++ lvl n (s + 1)
    rw [few_T n s]
theorem fewT_le (n : Nat) {j s : Nat} (h : j ≤ s) : (fewT n j).length ≤ (fewT n s).length := by
  induction s with
  | zero => rw [Nat.le_zero.mp h]; exact Nat.le_refl _
  | succ s ih =>
    rcases Nat.lt_or_ge j (s + 1) with c | c
    · have := ih (by omega)
      show _ ≤ (fewT n s ++ lvl n s).length
      rw [List.length_append]
      omega
    · rw [show j = s + 1 by omega]; exact Nat.le_refl _
theorem few_len {n s : Nat} (hn : n < 11) (hs : s < 4) : (few n s).length ≤ 200 := (ckF n hn s hs).1
theorem few_mem {n s : Nat} (hn : n < 11) (hs : s < 4) {a : List Nat} (h : a ∈ few n s) : a.length ≤ s ∧ a.length ≤ n ∧ (∀ x ∈ a, x < n) ∧ (List.range n).filter (fun k => a.contains k) = a := by
  have := List.all_eq_true.mp (ckF n hn s hs).2.2.2 a h
  simp only [Bool.and_eq_true, decide_eq_true_eq, List.all_eq_true] at this
  exact ⟨this.1.1.1, this.1.1.2, this.1.2, this.2⟩
theorem small_sets_W {n s : Nat} (hn : n < 11) (hs : s < 4) : S_small_sets [.int (n : Int), .int (s : Int)] = some (.lst ((few n s).map tN), 9, .non) := by
  have go : W (S_small_sets [.int (n : Int), .int (s : Int)]) fun r => r = (.lst ((few n s).map tN), 9, .non) := by
    refine W_O fun Q' hQ => ?_
    unfold S_small_sets S_small_setsb
    rw [W_mDef]
    have b := few_len hn hs
    rw [(ckF n hn s hs).2.2.1] at b hQ
    rw [few_T] at b hQ
    obtain ⟨m, hm⟩ : ∃ m, m = min n s := ⟨_, rfl⟩
    rw [← hm] at b hQ
    have rm : rgOk ((m : Int) + 1) := ⟨by omega, by omega⟩
    have em : min (n : Int) (s : Int) = (m : Int) := by omega
    (refine Zk.W_seqE (E1 := ?wE215) ?wa215 ?wb215; (case wa215 => (simp (disch := first | assumption | (simp; done) | omega) [ent0_def]; exact rfl)))
    have e0 : D.lst [] = .lst ((fewT n 0).map tN) := rfl
    rw [e0]
    (refine Zk.W_forN ?wE317 (m + 1) [3, 4] (fun (_ : Unit) j => [(2, some (.lst ((fewT n j).map tN), 9))]) (fun _ _ => True) () ?wa317 ?wb317 ?_ ?_ ?_; (case wa317 => (simp (disch := first | assumption | (simp; done) | omega) [rm, em]; exact rfl)); (case wb317 => (simp (disch := first | assumption | (simp; done) | omega) [Zk.sets, rm, em])))
    · trivial
    · intro l j I' hj _ hI
      simp only [Zk.AllU, Zk.sets, List.set_cons_succ, List.set_cons_zero, List.set_nil] at *
      intro u3 u4
      refine W_tgV.mpr ⟨by simp, ?_⟩
      obtain ⟨c1, c2⟩ := cmbs_is (n := n) (s := j) hn (by omega) (by omega)
      have ro := rOk_n (r := j) (by omega)
      have rb := rgB_n (a := 0) (b := (n : Int)) (by omega) (by omega) (by omega) (by omega)
      have bj := fewT_le n (show j + 1 ≤ m + 1 by omega)
      have ef : fewT n (j + 1) = fewT n j ++ lvl n j := rfl
      rw [ef] at hI bj
      rw [List.length_append] at bj
      have e1 : (fewT n j).map tN = (fewT n j ++ ([] : List (List Nat))).map tN := by simp
      rw [e1]
      refine W_end ?_
      (refine Zk.W_forS ?wE318 (lvl n j) tN [4] (fun (_ : Unit) p => [(2, some (.lst ((fewT n j ++ p).map tN), 9))]) (fun _ _ => True) () ?wa318 ?wb318 ?_ ?_ ?_; (case wa318 => (simp (disch := first | assumption | (simp; done) | omega) [rgB_n, rb, ro, c1, c2, -List.map_map]; exact rfl)); (case wb318 => (simp (disch := first | assumption | (simp; done) | omega) [Zk.sets, rgB_n, rb, ro, c1, c2, -List.map_map])))
      · trivial
      · intro l p a q I2 e2 _ hI2
        simp only [Zk.AllU, Zk.sets, List.set_cons_succ, List.set_cons_zero, List.set_nil] at *
        intro u4
        refine W_tgV.mpr ⟨by simp, ?_⟩
        have pl : p.length ≤ 200 := by
          have := congrArg List.length e2
          simp at this
          omega
        have zs : (fewT n j ++ p).length < sizeLine := by
          rw [sizeL, List.length_append]; omega
        rw [← List.append_assoc] at hI2
        generalize fewT n j ++ p = g at *
        have mt : (g.map tN) ++ [tN a] = (g ++ [a]).map tN := by simp
        simp (disch := first | assumption | (simp; done) | omega) [zs, mt, -List.map_append]
        apply hI2 () trivial
      intro l _
      simp only [Zk.AllU, Zk.sets, List.set_cons_succ, List.set_cons_zero, List.set_nil] at *
      intro u4
      simp (disch := first | assumption | (simp; done) | omega) [-List.map_map, -List.map_append]
      apply hI l trivial
    intro l _
    simp only [Zk.AllU, Zk.sets, List.set_cons_succ, List.set_cons_zero, List.set_nil] at *
    intro u3 u4
    have iS := imms_tNs (fewT n (m + 1))
    simp (disch := first | assumption | (simp; done) | omega) [iS]
    exact hQ _ rfl
  obtain ⟨r, e, rfl⟩ := go
  exact e
theorem stepS_len (n : Nat) : ∀ T : List (List Nat), (stepS n T).length ≤ T.length * n
  | [] => by simp [stepS]
  | a :: T => by
    have ih := stepS_len n T
    have e : stepS n (a :: T) = ((List.range (n - lo a)).map fun x => a ++ [lo a + x]) ++ stepS n T := by simp [stepS]
    rw [e, List.length_append, List.length_map, List.length_range, List.length_cons, Nat.succ_mul]
    omega
theorem lvl_row (n : Nat) : ∀ k, ∀ r ∈ lvl n k, r.length = k
  | 0, r, h => by simp [lvl] at h; subst h; rfl
  | k + 1, r, h => by
    rw [lvl, stepS, List.mem_flatMap] at h
    obtain ⟨a, ha, h⟩ := h
    obtain ⟨x, _, rfl⟩ := List.mem_map.mp h
    simp [lvl_row n k a ha]
theorem ckL : ∀ n, n < 11 → ∀ s, s < 4 → (lvl n s).all (fun a => decide (lo a ≤ n)) = true := by decide +kernel
theorem lvl_lo (n : Nat) (hn : n < 11) (j : Nat) (hj : j < 4) (a : List Nat) (h : a ∈ lvl n j) : lo a ≤ n := of_decide_eq_true (List.all_eq_true.mp (ckL n hn j hj) a h)
theorem few_sets_W {n s : Nat} (hn : n < 11) (hs : s < 4) : S_law_few_sets [.int (n : Int), .int (s : Int)] = some (.lst ((few n s).map tN), 9, .non) := by
  have go : W (S_law_few_sets [.int (n : Int), .int (s : Int)]) fun r => r = (.lst ((few n s).map tN), 9, .non) := by
    refine W_O fun Q' hQ => ?_
    unfold S_law_few_sets S_law_few_setsb
    rw [W_mDef]
    have rs : rgOk (s : Int) := ⟨by omega, by omega⟩
    (refine Zk.W_seqE (E1 := ?wE216) ?wa216 ?wb216; (case wa216 => (simp (disch := first | assumption | (simp; done) | omega) [ent0_def]; exact rfl)))
    have e0 : [D.tup []] = (few n 0).map tN := rfl
    rw [e0]
    (refine Zk.W_seqE (E1 := ?wE217) ?wa217 ?wb217; (case wa217 => (simp (disch := first | assumption | (simp; done) | omega) []; exact rfl)))
    have e0 : [D.tup []] = (lvl n 0).map tN := rfl
    rw [e0]
    (refine Zk.W_forN ?wE319 s [4, 5, 6, 7] (fun (l : Nat) j => [(2, some (.lst ((few n j).map tN), 9)), (3, some (.lst ((lvl n j).map tN), l))]) (fun _ _ => True) 9 ?wa319 ?wb319 ?_ ?_ ?_; (case wa319 => (simp (disch := first | assumption | (simp; done) | omega) [rs, uni, -List.map_map]; exact rfl)); (case wb319 => (simp (disch := first | assumption | (simp; done) | omega) [Zk.sets, rs, uni, -List.map_map])))
    · trivial
    · intro l0 j I' hj _ hI
      simp only [Zk.AllU, Zk.sets, List.set_cons_succ, List.set_cons_zero, List.set_nil] at *
      intro u4 u5 u6 u7
      refine W_tgV.mpr ⟨by simp, ?_⟩
      (refine Zk.W_seqE (E1 := ?wE218) ?wa218 ?wb218; (case wa218 => (simp (disch := first | assumption | (simp; done) | omega) []; exact rfl)))
      have e1 : D.lst [] = .lst ((stepS n []).map tN) := rfl
      rw [e1]
      have b1 := (ckF n hn j (by omega)).2.1
      have b2 := few_len (s := j + 1) hn (by omega)
      have iL := imms_tNs (lvl n j)
      (refine Zk.W_forS ?wE320 (lvl n j) tN [6, 7] (fun (_ : Unit) p => [(5, some (.lst ((stepS n p).map tN), 9))]) (fun _ _ => True) () ?wa320 ?wb320 ?_ ?_ ?_; (case wa320 => (simp (disch := first | assumption | (simp; done) | omega) [iL, -List.map_map]; exact rfl)); (case wb320 => (simp (disch := first | assumption | (simp; done) | omega) [Zk.sets, iL, -List.map_map])))
      · trivial
      · intro _ p a q I2 e2 _ hI2
        simp only [Zk.AllU, Zk.sets, List.set_cons_succ, List.set_cons_zero, List.set_nil] at *
        intro u6 u7
        refine W_tgV.mpr ⟨by simp, ?_⟩
        have pl : p.length ≤ 200 := by
          have := congrArg List.length e2
          simp at this
          omega
        have sl := stepS_len n p
        have sl2 : p.length * n ≤ 200 * 10 := Nat.mul_le_mul pl (by omega)
        have e3 : stepS n (p ++ [a]) = stepS n p ++ (List.range (n - lo a)).map fun x => a ++ [lo a + x] := by simp [stepS]
        rw [e3] at hI2
        have gl : gLen [tN a] = some (.int (a.length : Int), 9) := by unfold tN; rw [gLen_tup, List.length_map]
        have al := lvl_row n j a (by rw [e2]; simp)
        have lwb := lvl_lo n hn j (by omega) a (by rw [e2]; simp)
        have rl : rgOk (n : Int) := ⟨by omega, by omega⟩
        (refine Zk.W_seqE (E1 := ?wE219) ?wa219 ?wb219; (case wa219 => (simp (disch := first | assumption | (simp; done) | omega) [gl]; exact rfl)))
        refine W_seqO (J := fun E => ∃ l7, E = [some (.int n, 0), some (.int s, 0), some (.lst ((few n j).map tN), 9), some (.lst ((lvl n j).map tN), 0), some (.int j, 0), some (.lst ((stepS n p).map tN), 9), some (tN a, 0), some (.int (lo a : Int), l7), none]) ?_ ?_
        · intro J' hJ
          cases hla : a.getLast? with
          | none =>
            have an : a.length = 0 := by rw [List.getLast?_eq_none_iff.mp hla]; rfl
            have lz : lo a = 0 := by simp [lo, hla]
            rw [lz] at hJ
            simp (disch := first | assumption | (simp; done) | omega) [gl, an]
            exact hJ _ ⟨_, rfl⟩
          | some y =>
            have li := last_ix hla
            have an : 0 < a.length := by
              rw [List.length_pos_iff]
              rintro rfl
              cases hla
            have lz : lo a = y + 1 := by simp [lo, hla]
            rw [lz, show ((y + 1 : Nat) : Int) = (y : Int) + 1 by omega] at hJ
            simp (disch := first | assumption | (simp; done) | omega) [gl, an, li]
            exact hJ _ ⟨_, rfl⟩
        rintro _ ⟨l7, rfl⟩
        obtain ⟨w, hw⟩ : ∃ w, w = lo a := ⟨_, rfl⟩
        rw [← hw] at lwb hI2 ⊢
        have rw' : rgOk (w : Int) := ⟨by omega, by omega⟩
        have er : rng (w : Int) (n - w) = (List.range (n - w)).map fun x : Nat => D.int ((w : Int) + (x : Int)) := rfl
        have et : ((n : Int) - (w : Int)).toNat = n - w := by omega
        have ax : a.length + 1 ≤ sizeLine := by rw [sizeL]; omega
        have iS := imms_tNs (stepS n p)
        refine W_end ?_
        simp (disch := first | assumption | (simp; done) | omega) [W_lc0, er, et, -List.map_map]
        refine ⟨⟨rw', rl⟩, ?_⟩
        refine W_lcY (xs := List.range (n - w)) (ι := fun x : Nat => D.int ((w : Int) + (x : Int))) (fun x => tN (a ++ [w + x])) (fun _ => imm_tN _) (by rw [sizeL, List.length_range]; omega) (fun x _ => ?_) fun acc ha hu => ?_
        · have ga : gAdd [tN a, .tup [.int ((w : Int) + (x : Int))]] = some (tN (a ++ [w + x]), 0) := by
            unfold tN
            rw [gAdd_tup, if_pos (by simpa using ax)]
            simp
          simp (disch := first | assumption | (simp; done) | omega) [ga]
        · have iq : acc.map (·.1) = ((List.range (n - w)).map fun x => a ++ [w + x]).map tN := by rw [ha, List.map_map]; rfl
          have ga : gAdd [.lst ((stepS n p).map tN), .lst (((List.range (n - w)).map fun x => a ++ [w + x]).map tN)] = some (.lst ((stepS n p ++ (List.range (n - w)).map fun x => a ++ [w + x]).map tN), 9) := by
            rw [gAdd_lst, List.length_map, List.length_map, if_pos (by rw [sizeL, List.length_map, List.length_range]; omega), ← List.map_append, lev_tNs]
          simp (disch := first | assumption | (simp; done) | omega) [iq, hu, ga, iS, imms_tNs, -List.map_map, -List.map_append]
          apply hI2 () trivial
      intro _ _
      simp only [Zk.AllU, Zk.sets, List.set_cons_succ, List.set_cons_zero, List.set_nil] at *
      intro u6 u7
      have iS := imms_tNs (few n j)
      have iS2 := imms_tNs (stepS n (lvl n j))
      have e7 : few n (j + 1) = few n j ++ stepS n (lvl n j) := rfl
      have e8 : lvl n (j + 1) = stepS n (lvl n j) := rfl
      rw [e7, e8] at hI
      rw [e7] at b2
      have sz : (few n j).length + (stepS n (lvl n j)).length ≤ sizeLine := by
        rw [List.length_append] at b2
        rw [sizeL]; omega
      have ga : gAdd [.lst ((few n j).map tN), .lst ((stepS n (lvl n j)).map tN)] = some (.lst ((few n j ++ stepS n (lvl n j)).map tN), 9) := by
        rw [gAdd_lst, List.length_map, List.length_map, if_pos sz, ← List.map_append, lev_tNs]
      (refine Zk.W_seqE (E1 := ?wE220) ?wa220 ?wb220; (case wa220 => (simp (disch := first | assumption | (simp; done) | omega) [ga, iS, iS2, -List.map_append]; exact rfl)))
      simp (disch := first | assumption | (simp; done) | omega) [-List.map_append]
      apply hI 0 trivial
    intro _ _
    simp only [Zk.AllU, Zk.sets, List.set_cons_succ, List.set_cons_zero, List.set_nil] at *
    intro u4 u5 u6 u7
    simp (disch := first | assumption | (simp; done) | omega) []
    exact hQ _ rfl
  obtain ⟨r, e, rfl⟩ := go
  exact e
end
end Zk.Bh
namespace Zk.Bh
noncomputable section
open PySem PySem.Spec PyProof.Rows L2 Zk Zk.Bc Zk.Bf Zk.Bg
def hit (p ks : List Nat) : Bool := ks.any fun k => decide (k ∈ p)
def ans (ps : List (List Nat)) (ks : List Nat) : List Nat := ps.map fun p => if hit p ks = true then 1 else 0
def pD (ps : List (List Nat)) : D := .tup (ps.map tN)
@[simp] theorem imm_pD (ps : List (List Nat)) : imm (pD ps) = true := by simp [pD, imms_tNs]
def small (ps : List (List Nat)) : Prop := ps.length ≤ 40 ∧ ∀ p ∈ ps, p.length ≤ 100
theorem answers_W {ps : List (List Nat)} {ks : List Nat} (hp : small ps) (hk : ks.length ≤ 100) : S_pool_answers [pD ps, tN ks] = some (tN (ans ps ks), 9, .non) := by
  have go : W (S_pool_answers [pD ps, tN ks]) fun r => r = (tN (ans ps ks), 9, .non) := by
    refine W_O fun Q' hQ => ?_
    unfold S_pool_answers S_pool_answersb
    rw [W_mDef]
    unfold pD
    have ip := imms_tNs ps
    simp (disch := first | assumption | (simp; done) | omega) [ent0_def, W_lc0, ip, -List.map_map]
    refine W_lcY (xs := ps) (ι := tN) (fun p => iN (if hit p ks = true then 1 else 0)) (fun _ => rfl) (by rw [sizeL]; have := hp.1; omega) (fun p h => ?_) fun acc ha hu => ?_
    · have pl := hp.2 p h
      have hb : ((ks.map fun k => decide (k ∈ p)).any id) = hit p ks := by unfold hit; rw [List.any_map]; rfl
      have gi : ∀ k : Nat, gInA false [.int (k : Int), tN p] = some (.bl (decide (k ∈ p)), 9) := fun k => by
        have := gInA_tN false k p (by omega)
        simpa using this
      generalize tN p = P at *
      unfold tN
      simp (disch := first | assumption | (simp; done) | omega) [W_lc0, -List.map_map]
      refine W_lcB (xs := ks) (ι := fun c : Nat => D.int (c : Int)) (fun k => decide (k ∈ p)) (by rw [sizeL]; omega) (fun k _ => ?_) fun acc ha hu => ?_
      · simp (disch := first | assumption | (simp; done) | omega) [gi]
      · cases hc : hit p ks <;> simp (disch := first | assumption | (simp; done) | omega) [ha, hu, hb, hc, -List.map_map]
    · have e1 : acc.map (·.1) = (ans ps ks).map iN := by rw [ha]; unfold ans; rw [List.map_map]; rfl
      simp (disch := first | assumption | (simp; done) | omega) [e1, hu, -List.map_map]
      exact hQ _ rfl
  obtain ⟨r, e, rfl⟩ := go
  exact e
theorem said_W {ps : List (List Nat)} {ks : List Nat} (hp : small ps) (hk : ks.length ≤ 100) : S_law_said [pD ps, tN ks] = some (tN (ans ps ks), 9, .non) := by
  have go : W (S_law_said [pD ps, tN ks]) fun r => r = (tN (ans ps ks), 9, .non) := by
    refine W_O fun Q' hQ => ?_
    unfold S_law_said S_law_saidb
    rw [W_mDef]
    unfold pD
    have ip := imms_tNs ps
    simp (disch := first | assumption | (simp; done) | omega) [ent0_def, W_lc0, ip, -List.map_map]
    refine W_lcY (xs := ps) (ι := tN) (fun p => iN (if hit p ks = true then 1 else 0)) (fun _ => rfl) (by rw [sizeL]; have := hp.1; omega) (fun p h => ?_) fun acc ha hu => ?_
    · have pl := hp.2 p h
      have hb : gInA false [.bl true, .lst ((ks.map fun k => decide (k ∈ p)).map D.bl)] = some (.bl (hit p ks), 9) := by
        rw [gIn_bl _ _ _ (by rw [List.length_map, sizeL]; omega)]
        have : (ks.map fun k => decide (k ∈ p)).contains true = hit p ks := by
          unfold hit
          rw [List.contains_eq_any_beq, List.any_map]
          congr 1
          funext k
          simp
        rw [this]; simp
      have gi : ∀ k : Nat, gInA false [.int (k : Int), tN p] = some (.bl (decide (k ∈ p)), 9) := fun k => by
        have := gInA_tN false k p (by omega)
        simpa using this
      generalize tN p = P at *
      unfold tN
      simp (disch := first | assumption | (simp; done) | omega) [W_lc0, -List.map_map]
      refine W_lcB (xs := ks) (ι := fun c : Nat => D.int (c : Int)) (fun k => decide (k ∈ p)) (by rw [sizeL]; omega) (fun k _ => ?_) fun acc ha hu => ?_
      · simp (disch := first | assumption | (simp; done) | omega) [gi]
      · cases hc : hit p ks <;> rw [hc] at hb <;> simp (disch := first | assumption | (simp; done) | omega) [ha, hu, hb, hc, gInt, -List.map_map]
    · have e1 : acc.map (·.1) = (ans ps ks).map iN := by rw [ha]; unfold ans; rw [List.map_map]; rfl
      simp (disch := first | assumption | (simp; done) | omega) [e1, hu, -List.map_map]
      exact hQ _ rfl
  obtain ⟨r, e, rfl⟩ := go
  exact e
theorem ans_len (ps : List (List Nat)) (ks : List Nat) : (ans ps ks).length = ps.length := by simp [ans]
end
end Zk.Bh
namespace Zk.Bh
noncomputable section
open PySem PySem.Spec PyProof.Rows L2 Zk Zk.Bc Zk.Bf Zk.Bg
theorem ix_t {α : Type} {f : α → D} {xs : List α} {i : Nat} {x : α} (h : xs[i]? = some x) : gIxd [.tup (xs.map f), .int (i : Int)] = some (f x, 0) := by
  have hl := (List.getElem?_eq_some_iff.mp h).1
  rw [gIxd_tup, gIx_tup, atI_map']
  unfold atI
  rw [ixN_ok (by omega) (by omega), Option.bind_some, Int.toNat_natCast, h]
  rfl
theorem ix_l {α : Type} {f : α → D} {xs : List α} {i : Nat} {x : α} (h : xs[i]? = some x) : gIxd [.lst (xs.map f), .int (i : Int)] = some (f x, 0) := by
  have hl := (List.getElem?_eq_some_iff.mp h).1
  rw [gIxd_lst, gIx_lst, atI_map']
  unfold atI
  rw [ixN_ok (by omega) (by omega), Option.bind_some, Int.toNat_natCast, h]
  rfl
end
end Zk.Bh
namespace Zk.Bh
noncomputable section
open PySem PySem.Spec PyProof.Rows L2 Zk Zk.Bc Zk.Bf Zk.Bg
end
end Zk.Bh
namespace Zk
open PySem PySem.Spec PyProof.Rows L2
section
variable {β : Type} {f : β → D}
def kT (a : List Int) : List Key := a.map Sum.inl
def tZ (a : List Int) : D := .tup (a.map D.int)
@[simp] theorem imm_tZ (a : List Int) : imm (tZ a) = true := by simp [tZ, imms_map' (f := D.int) (fun _ => rfl) a]
theorem kT_inj {a b : List Int} : kT a = kT b ↔ a = b := by
  unfold kT
  exact List.map_inj_right fun _ _ h => by cases h; rfl
theorem keysOf_tZ : ∀ a : List Int, keysOf (a.map D.int) = some (kT a)
  | [] => rfl
  | x :: a => by
    rw [List.map_cons, keysOf_c, keysOf_tZ a]; rfl
def getW (m : List (List Int × β)) (k : List Int) : Option β := (m.find? fun p => decide (p.1 = k)).map (·.2)
def putW (m : List (List Int × β)) (k : List Int) (v : β) : List (List Int × β) := if (m.any fun p => decide (p.1 = k)) = true then m.map (fun p => if p.1 = k then (p.1, v) else p) else m ++ [(k, v)]
def dWk (f : β → D) (m : List (List Int × β)) : List (List Key × D) := m.map fun p => (kT p.1, f p.2)
def dW (f : β → D) (m : List (List Int × β)) : D := .dT (dWk f m)
@[simp] theorem imm_dW (m : List (List Int × β)) : imm (dW f m) = false := by simp [dW, imm]
theorem imms_dW (hf : ∀ b, imm (f b) = true) (m : List (List Int × β)) : imms ((dWk f m).map (·.2)) = true := by
  unfold dWk
  rw [List.map_map]
  exact imms_map' (fun p => hf p.2) m
theorem valD_dW (m : List (List Int × β)) (k : List Int) : valD (dWk f m) (kT k) = (getW m k).map f := by
  unfold valD getW dWk
  induction m with
  | nil => rfl
  | cons p m ih =>
    simp only [List.map_cons, List.find?_cons]
    by_cases h : p.1 = k
    · simp [h]
    · simp only [h, kT_inj, decide_false]
      simpa using ih
theorem putD_dW (m : List (List Int × β)) (k : List Int) (v : β) : putD (dWk f m) (kT k) (f v) = dWk f (putW m k v) := by
  unfold dWk
  have e : ((m.map fun p => (kT p.1, f p.2)).any fun kv => decide (kv.1 = kT k)) = m.any fun p => decide (p.1 = k) := by
    rw [List.any_map]
    congr 1
    funext p
    simp [kT_inj]
  unfold putD putW
  rw [e]
  split
  · rw [List.map_map, List.map_map]
    apply List.map_congr_left
    intro p hp
    simp only [Function.comp_apply, kT_inj]
    split <;> rfl
  · simp
@[simp] theorem look_dW (m : List (List Int × β)) (k : List Int) : look (dW f m) (tZ k) = some ((getW m k).map f) := by
  simp only [dW, tZ, look, keysOf_tZ, Option.map_some, valD_dW]
@[simp] theorem gIxd_dW (m : List (List Int × β)) (k : List Int) : gIxd [dW f m, tZ k] = (getW m k).map fun v => (f v, 0) := by
  have e : gIxd [dW f m, tZ k] = gDg [dW f m, tZ k] := rfl
  rw [e]
  simp only [gDg, look_dW, Option.bind_some]
  cases getW m k <;> rfl
@[simp] theorem gInA_dW (neg : Bool) (m : List (List Int × β)) (k : List Int) : gInA neg [tZ k, dW f m] = some (.bl ((getW m k).isSome ^^ neg), 9) := by
  have e : gInA neg [tZ k, dW f m] = gInD neg [tZ k, dW f m] := rfl
  rw [e]
  simp only [gInD, look_dW, Option.map_some]
  cases getW m k <;> rfl
theorem putOf_dW (hf : ∀ b, imm (f b) = true) (m : List (List Int × β)) (n nv : Nat) (k : List Int) (v : β) : putOf (dW f m, n + 1) (tZ k) (f v) nv = if m.length < sizeLine then some (dW f (putW m k v), n + 1) else none := by
  have e : putOf (dW f m, n + 1) (tZ k) (f v) nv = (keysOf (k.map D.int)).bind fun k' => if (dWk f m).length < sizeLine then some (.dT (putD (dWk f m) k' (f v)), updl (n + 1) (dWk f m) (f v)) else none := rfl
  rw [e]
  have u : updl (n + 1) (dWk f m) (f v) = n + 1 := by
    unfold updl
    rw [if_pos ⟨imms_dW hf m, hf v⟩]
  have l : (dWk f m).length = m.length := by simp [dWk]
  simp only [keysOf_tZ, Option.bind_some, putD_dW, u, l]
  rfl
theorem getW_put (m : List (List Int × β)) (k : List Int) (v : β) (j : List Int) : getW (putW m k v) j = if j = k then some v else getW m j := by
  unfold putW
  split
  · rename_i h
    unfold getW
    induction m with
    | nil => simp at h
    | cons p m ih =>
      simp only [List.map_cons, List.find?_cons]
      by_cases h1 : p.1 = k
      · by_cases h2 : j = k
        · subst h2; simp [h1]
        · have h3 : ¬ k = j := fun e => h2 e.symm
          have h4 : ¬ p.1 = j := fun e => h2 (e ▸ h1)
          simp only [h1, if_true, if_neg h2, h3, decide_false]
          by_cases h5 : (m.any fun p => decide (p.1 = k)) = true
          · have := ih h5
            rw [if_neg h2] at this
            exact this
          · have e : m.map (fun p => if p.1 = k then (p.1, v) else p) = m := by
              conv => rhs; rw [← List.map_id m]
              apply List.map_congr_left
              intro q hq
              rw [if_neg]
              · rfl
              · intro e
                exact h5 (List.any_eq_true.mpr ⟨q, hq, by simp [e]⟩)
            rw [e]
      · have h5 : (m.any fun p => decide (p.1 = k)) = true := by simpa [h1] using h
        simp only [if_neg h1]
        by_cases h2 : p.1 = j
        · have h3 : ¬ j = k := fun e => h1 (h2.trans e)
          simp [h2, h3]
        · simp only [h2, decide_false]
          exact ih h5
  · rename_i h
    unfold getW
    rw [List.find?_append]
    by_cases h2 : j = k
    · subst h2
      have : m.find? (fun p => decide (p.1 = j)) = none := List.find?_eq_none.mpr fun p hp e => h (List.any_eq_true.mpr ⟨p, hp, e⟩)
      simp [this]
    · have h3 : ¬ k = j := fun e => h2 e.symm
      simp [h2, h3]
end
end Zk
namespace Zk.Bh
noncomputable section
def at_ (B : List (List Nat)) (i : Nat) : List Nat := B.getD i []
def fo (B : List (List Nat)) (a : List Nat) : Nat := B.findIdx fun b => decide (b = a)
theorem at_get {B : List (List Nat)} {i : Nat} (h : i < B.length) : B[i]? = some (at_ B i) := by
  unfold at_
  rw [List.getD_eq_getElem?_getD, List.getElem?_eq_getElem h]; rfl
theorem fo_le : ∀ {B : List (List Nat)} {j : Nat} {a : List Nat}, B[j]? = some a → fo B a ≤ j
  | [], j, a, h => by simp at h
  | b :: B, j, a, h => by
    unfold fo
    rw [List.findIdx_cons]
    by_cases c : b = a
    · simp [c]
    · simp only [c, decide_false, cond_false]
      cases j with
      | zero => simp at h; exact absurd h c
      | succ j =>
        have := fo_le (B := B) (j := j) (a := a) (by simpa using h)
        unfold fo at this
        omega
theorem fo_at : ∀ {B : List (List Nat)} {j : Nat} {a : List Nat}, B[j]? = some a → B[fo B a]? = some a
  | [], j, a, h => by simp at h
  | b :: B, j, a, h => by
    unfold fo
    rw [List.findIdx_cons]
    by_cases c : b = a
    · simp [c]
    · simp only [c, decide_false, cond_false]
      cases j with
      | zero => simp at h; exact absurd h c
      | succ j =>
        have := fo_at (B := B) (j := j) (a := a) (by simpa using h)
        unfold fo at this
        simpa using this
theorem mem_take_get {B : List (List Nat)} {a : List Nat} {j : Nat} : a ∈ B.take j ↔ ∃ i, i < j ∧ B[i]? = some a := by
  rw [List.mem_iff_getElem?]
  constructor
  · rintro ⟨i, h⟩
    rw [List.getElem?_take] at h
    split at h
    · exact ⟨i, by assumption, h⟩
    · cases h
  · rintro ⟨i, h, e⟩
    exact ⟨i, by rw [List.getElem?_take, if_pos h, e]⟩
theorem fo_take {B : List (List Nat)} {a : List Nat} {j : Nat} (h : a ∈ B.take j) : fo B a < j := by
  obtain ⟨i, hi, e⟩ := mem_take_get.mp h
  have := fo_le e
  omega
/-- a repeat: the first place where the answers stood -/
def rep (B : List (List Nat)) (i : Nat) : Prop := fo B (at_ B i) < i
def Best (B : List (List Nat)) (j : Nat) : Option (Nat × Nat) → Prop
  | none => ∀ i, i < j → ¬ rep B i
  | some (f, i) => i < j ∧ f = fo B (at_ B i) ∧ f < i ∧ ∀ i', i' < j → rep B i' → f ≤ fo B (at_ B i') ∧ (f = fo B (at_ B i') → i ≤ i')
theorem best_one {B : List (List Nat)} {j : Nat} : ∀ {b c : Option (Nat × Nat)}, Best B j b → Best B j c → b = c
  | none, none, _, _ => rfl
  | none, some (f, i), h1, h2 => absurd (show rep B i by unfold rep; rw [← h2.2.1]; exact h2.2.2.1) (h1 i h2.1)
  | some (f, i), none, h2, h1 => absurd (show rep B i by unfold rep; rw [← h2.2.1]; exact h2.2.2.1) (h1 i h2.1)
  | some (f, i), some (g, k), h1, h2 => by
    obtain ⟨a1, a2, a3, a4⟩ := h1
    obtain ⟨b1, b2, b3, b4⟩ := h2
    obtain ⟨c1, c2⟩ := a4 k b1 (by unfold rep; rw [← b2]; exact b3)
    obtain ⟨d1, d2⟩ := b4 i a1 (by unfold rep; rw [← a2]; exact a3)
    rw [← b2] at c1 c2
    rw [← a2] at d1 d2
    have e : f = g := by omega
    subst e
    have := c2 rfl
    have := d2 rfl
    rw [show i = k by omega]
/-- one further -/
def nxt (B : List (List Nat)) (j : Nat) (b : Option (Nat × Nat)) : Option (Nat × Nat) :=
  if fo B (at_ B j) < j then (match b with
    | none => some (fo B (at_ B j), j)
    | some (f, i) => if fo B (at_ B j) < f then some (fo B (at_ B j), j) else some (f, i)) else b
theorem best_nxt {B : List (List Nat)} {j : Nat} {b : Option (Nat × Nat)} (h : Best B j b) : Best B (j + 1) (nxt B j b) := by
  unfold nxt
  by_cases c : fo B (at_ B j) < j
  · rw [if_pos c]
    cases b with
    | none =>
      refine ⟨by omega, rfl, c, fun i hi hr => ?_⟩
      rcases Nat.lt_or_ge i j with h1 | h1
      · exact absurd hr (h i h1)
      · rw [show i = j by omega]
        exact ⟨Nat.le_refl _, fun _ => Nat.le_refl _⟩
    | some p =>
      obtain ⟨f, i⟩ := p
      obtain ⟨a1, a2, a3, a4⟩ := h
      dsimp only
      by_cases d : fo B (at_ B j) < f
      · rw [if_pos d]
        refine ⟨by omega, rfl, c, fun i' hi hr => ?_⟩
        rcases Nat.lt_or_ge i' j with h1 | h1
        · have := a4 i' h1 hr
          exact ⟨by omega, fun e => by omega⟩
        · rw [show i' = j by omega]
          exact ⟨Nat.le_refl _, fun _ => Nat.le_refl _⟩
      · rw [if_neg d]
        refine ⟨by omega, a2, a3, fun i' hi hr => ?_⟩
        rcases Nat.lt_or_ge i' j with h1 | h1
        · exact a4 i' h1 hr
        · rw [show i' = j by omega]
          exact ⟨by omega, fun _ => by omega⟩
  · rw [if_neg c]
    cases b with
    | none =>
      intro i hi hr
      rcases Nat.lt_or_ge i j with h1 | h1
      · exact h i h1 hr
      · rw [show i = j by omega] at hr
        exact c hr
    | some p =>
      obtain ⟨f, i⟩ := p
      obtain ⟨a1, a2, a3, a4⟩ := h
      refine ⟨by omega, a2, a3, fun i' hi hr => ?_⟩
      rcases Nat.lt_or_ge i' j with h1 | h1
      · exact a4 i' h1 hr
      · rw [show i' = j by omega] at hr
        exact absurd hr c
end
end Zk.Bh
namespace Zk.Bh
noncomputable section
open PySem PySem.Spec PyProof.Rows L2 Zk Zk.Bc Zk.Bf Zk.Bg
theorem tN_tZ (a : List Nat) : tN a = tZ (castN a) := tN_tD a
theorem castN_inj {a b : List Nat} : castN a = castN b ↔ a = b := ⟨fun h => by
  unfold castN at h
  exact (List.map_inj_right fun _ _ h => by omega).mp h, fun h => by rw [h]⟩
def gV (L : List (List Nat)) (i : Nat) : D := .tup [iN i, tN (at_ L i)]
theorem imm_gV (L : List (List Nat)) (i : Nat) : imm (gV L i) = true := by
  have := imm_tN (at_ L i)
  simp [gV, this]
def bD (L : List (List Nat)) : Option (Nat × Nat) → D
  | none => .non
  | some (f, i) => .tup [iN f, .tup [tN (at_ L f), tN (at_ L i)]]
def twD (L : List (List Nat)) : Option (Nat × Nat) → D
  | none => .non
  | some (f, i) => .tup [tN (at_ L f), tN (at_ L i)]
theorem at_map {ps : List (List Nat)} {L : List (List Nat)} {i : Nat} (h : i < L.length) : at_ (L.map (ans ps)) i = ans ps (at_ L i) := by
  unfold at_
  rw [List.getD_eq_getElem?_getD, List.getElem?_map, List.getElem?_eq_getElem h, List.getD_eq_getElem?_getD, List.getElem?_eq_getElem h]
  rfl
theorem map_at {α : Type} (f : List Nat → α) (L : List (List Nat)) : L.map f = (List.range L.length).map fun i => f (at_ L i) := by
  refine List.ext_getElem? fun i => ?_
  rw [List.getElem?_map, List.getElem?_map]
  by_cases h : i < L.length
  · rw [List.getElem?_range h, List.getElem?_eq_getElem h]
    unfold at_
    rw [Option.map_some, Option.map_some, List.getD_eq_getElem?_getD, List.getElem?_eq_getElem h]
    rfl
  · rw [List.getElem?_eq_none (by omega), List.getElem?_eq_none (by rw [List.length_range]; omega)]
    rfl
/-- the dict after j sets -/
def Dict (B : List (List Nat)) (j : Nat) (m : List (List Int × Nat)) : Prop := m.length ≤ j ∧ ∀ a, getW m (castN a) = if a ∈ B.take j then some (fo B a) else none
theorem dict_same {B : List (List Nat)} {j : Nat} {m : List (List Int × Nat)} (hj : j < B.length) (h : Dict B j m) (hm : at_ B j ∈ B.take j) : Dict B (j + 1) m := by
  refine ⟨by have := h.1; omega, fun a => ?_⟩
  rw [h.2 a, List.take_add_one, at_get hj]
  by_cases c : a ∈ B.take j
  · rw [if_pos c, if_pos (List.mem_append_left _ c)]
  · rw [if_neg c, if_neg]
    intro h2
    rcases List.mem_append.mp h2 with h2 | h2
    · exact c h2
    · simp at h2; exact c (h2 ▸ hm)
theorem dict_put {B : List (List Nat)} {j : Nat} {m : List (List Int × Nat)} (hj : j < B.length) (h : Dict B j m) (hm : ¬ at_ B j ∈ B.take j) : Dict B (j + 1) (putW m (castN (at_ B j)) j) := by
  have g0 : getW m (castN (at_ B j)) = none := by rw [h.2, if_neg hm]
  have ln : ¬ (m.any fun p => decide (p.1 = castN (at_ B j))) = true := by
    intro hc
    unfold getW at g0
    rw [Option.map_eq_none_iff, List.find?_eq_none] at g0
    obtain ⟨p, hp, e⟩ := List.any_eq_true.mp hc
    exact g0 p hp e
  have fj : fo B (at_ B j) = j := by
    have h1 := fo_le (at_get hj)
    have h2 := fo_at (at_get hj)
    rcases Nat.lt_or_ge (fo B (at_ B j)) j with h3 | h3
    · exact absurd (mem_take_get.mpr ⟨_, h3, h2⟩) hm
    · omega
  refine ⟨?_, fun a => ?_⟩
  · unfold putW
    rw [if_neg ln, List.length_append]
    have := h.1
    simp; omega
  · rw [getW_put, h.2 a, List.take_add_one, at_get hj]
    by_cases c : a = at_ B j
    · subst c
      rw [if_pos rfl, if_pos (List.mem_append_right _ (by simp)), fj]
    · rw [if_neg (fun e => c (castN_inj.mp e))]
      by_cases c2 : a ∈ B.take j
      · rw [if_pos c2, if_pos (List.mem_append_left _ c2)]
      · rw [if_neg c2, if_neg]
        intro h2
        rcases List.mem_append.mp h2 with h2 | h2
        · exact c2 h2
        · simp at h2; exact c h2
theorem twin_W {ps : List (List Nat)} {n s : Nat} (hn : n < 11) (hs : s < 4) (hp : small ps) : ∃ b l, Best ((few n s).map (ans ps)) ((few n s).map (ans ps)).length b ∧ S_twin_sets [pD ps, .int (n : Int), .int (s : Int)] = some (twD (few n s) b, l, .non) := by
  have go : W (S_twin_sets [pD ps, .int (n : Int), .int (s : Int)]) fun r => ∃ b l, Best ((few n s).map (ans ps)) ((few n s).map (ans ps)).length b ∧ r = (twD (few n s) b, l, .non) := by
    refine W_O fun Q' hQ => ?_
    unfold S_twin_sets S_twin_setsb
    rw [W_mDef]
    have sw := small_sets_W hn hs
    have sl := few_len hn hs
    have iS := imms_tNs (few n s)
    have ip := imm_pD ps
    have fm : ∀ i, i < (few n s).length → (at_ (few n s) i).length ≤ 100 := fun i hi => by
      obtain ⟨m1, m2, m3, m4⟩ := few_mem hn hs (List.mem_of_getElem? (at_get hi))
      omega
    generalize few n s = L at *
    obtain ⟨B, hB⟩ : ∃ B, B = L.map (ans ps) := ⟨_, rfl⟩
    have bl : B.length = L.length := by rw [hB, List.length_map]
    have ba : ∀ i, i < L.length → at_ B i = ans ps (at_ L i) := fun i hi => by rw [hB]; exact at_map hi
    rw [← hB] at hQ
    have eL := map_at tN L
    have eE := enD_range (fun i => tN (at_ L i)) L.length
    rw [← eL] at eE
    (refine Zk.W_seqE (E1 := ?wE223) ?wa223 ?wb223; (case wa223 => (simp (disch := first | assumption | (simp; done) | omega) [ent0_def]; exact rfl)))
    (refine Zk.W_seqE (E1 := ?wE224) ?wa224 ?wb224; (case wa224 => (simp (disch := first | assumption | (simp; done) | omega) []; exact rfl)))
    have e0 : D.dT [] = dW (gV L) [] := rfl
    rw [e0]
    have bn : bD L none = .non := rfl
    (refine Zk.W_forQ ?wE326 L.length (fun i => D.tup [.int (i : Int), tN (at_ L i)]) [5, 6, 7, 8, 9] (fun (c : List (List Int × Nat) × Option (Nat × Nat) × Nat) _ => [(3, some (dW (gV L) c.1, 9)), (4, some (bD L c.2.1, c.2.2))]) (fun c j => Dict B j c.1 ∧ Best B j c.2.1) (([], none, 9) : List (List Int × Nat) × Option (Nat × Nat) × Nat) ?wa326 ?wb326 ?_ ?_ ?_; (case wa326 => (simp (disch := first | assumption | (simp; done) | omega) [sw, bn, iS, ip, eE, dem1, -List.map_map]; exact rfl)); (case wb326 => (simp (disch := first | assumption | (simp; done) | omega) [Zk.sets, sw, bn, iS, ip, eE, dem1, -List.map_map])))
    · refine ⟨⟨Nat.le_refl _, fun a => ?_⟩, fun i hi => absurd hi (by omega)⟩
      simp [getW]
    · rintro ⟨m, b, l⟩ j I' hj ⟨hd, hb⟩ hI
      simp only [Zk.AllU, Zk.sets, List.set_cons_succ, List.set_cons_zero, List.set_nil] at *
      intro u5 u6 u7 u8 u9
      have hb2 := best_nxt hb
      have aw := answers_W hp (ks := at_ L j) (fm j hj)
      rw [← ba j hj] at aw
      have ic := imm_tN (at_ L j)
      have ia := imm_tN (at_ B j)
      have hw := hd.2 (at_ B j)
      have hl := hd.1
      have iv := imm_gV L
      by_cases hm : at_ B j ∈ B.take j
      · rw [if_pos hm] at hw
        have f1 := fo_take hm
        have gin : gInA true [tN (at_ B j), dW (gV L) m] = some (.bl false, 9) := by rw [tN_tZ, gInA_dW, hw]; rfl
        have gix : gIxd [dW (gV L) m, tN (at_ B j)] = some (.tup [.int (fo B (at_ B j) : Int), tN (at_ L (fo B (at_ B j)))], 0) := by rw [tN_tZ, gIxd_dW, hw]; rfl
        have ds := dict_same (by omega) hd hm
        unfold nxt at hb2
        rw [if_pos f1] at hb2
        generalize fo B (at_ B j) = f at *
        have io := imm_tN (at_ L f)
        cases b with
        | none =>
          simp (disch := first | assumption | (simp; done) | omega) [aw, ic, ia, ip, gin, gix, io, bn, gIsN, dem1]
          exact hI (m, some (f, j), _) ⟨ds, hb2⟩ _ _ _ _ _
        | some p =>
          obtain ⟨g, i⟩ := p
          have bs : bD L (some (g, i)) = .tup [.int (g : Int), .tup [tN (at_ L g), tN (at_ L i)]] := rfl
          have i1 := imm_tN (at_ L g)
          have i2 := imm_tN (at_ L i)
          dsimp only at hb2
          by_cases c : f < g
          · rw [if_pos c] at hb2
            have c2 : (f : Int) < (g : Int) := by omega
            simp (disch := first | assumption | (simp; done) | omega) [aw, ic, ia, ip, gin, gix, io, bs, i1, i2, c, c2, gIsN, dem1]
            exact hI (m, some (f, j), _) ⟨ds, hb2⟩ _ _ _ _ _
          · rw [if_neg c] at hb2
            have c2 : ¬ (f : Int) < (g : Int) := by omega
            simp (disch := first | assumption | (simp; done) | omega) [aw, ic, ia, ip, gin, gix, io, bs, i1, i2, c, c2, gIsN, dem1]
            exact hI (m, some (g, i), _) ⟨ds, hb2⟩ _ _ _ _ _
      · rw [if_neg hm] at hw
        have gin : gInA true [tN (at_ B j), dW (gV L) m] = some (.bl true, 9) := by rw [tN_tZ, gInA_dW, hw]; rfl
        have dp := dict_put (by omega) hd hm
        have put : ∀ nv, putOf (dW (gV L) m, 9) (tN (at_ B j)) (.tup [.int (j : Int), tN (at_ L j)]) nv = some (dW (gV L) (putW m (castN (at_ B j)) j), 9) := fun nv => by
          have := putOf_dW (f := gV L) iv m 8 nv (castN (at_ B j)) j
          rw [if_pos (by rw [sizeL]; omega), ← tN_tZ] at this
          exact this
        have nf : ¬ fo B (at_ B j) < j := fun h => hm (mem_take_get.mpr ⟨_, h, fo_at (at_get (by omega))⟩)
        unfold nxt at hb2
        rw [if_neg nf] at hb2
        simp (disch := first | assumption | (simp; done) | omega) [aw, ic, ia, ip, gin, put, dem1]
        exact hI (putW m (castN (at_ B j)) j, b, _) ⟨dp, hb2⟩ _ _ _ _ _
    rintro ⟨m, b, l⟩ ⟨hd, hb⟩
    simp only [Zk.AllU, Zk.sets, List.set_cons_succ, List.set_cons_zero, List.set_nil] at *
    intro u5 u6 u7 u8 u9
    rw [← bl] at hb
    cases b with
    | none =>
      simp (disch := first | assumption | (simp; done) | omega) [bn, gIsN]
      exact hQ _ ⟨_, _, hb, rfl⟩
    | some p =>
      obtain ⟨g, i⟩ := p
      have bs : bD L (some (g, i)) = .tup [.int (g : Int), .tup [tN (at_ L g), tN (at_ L i)]] := rfl
      have i1 := imm_tN (at_ L g)
      have i2 := imm_tN (at_ L i)
      simp (disch := first | assumption | (simp; done) | omega) [bs, i1, i2, gIsN]
      exact hQ _ ⟨_, _, hb, rfl⟩
  obtain ⟨r, e, b, l, hb, rfl⟩ := go
  exact ⟨b, l, hb, e⟩
end
end Zk.Bh
namespace Zk.Bh
noncomputable section
open PySem PySem.Spec PyProof.Rows L2 Zk Zk.Bc Zk.Bf Zk.Bg
def later (B : List (List Nat)) (j N : Nat) : List Nat := ((List.range (N - (j + 1))).filter fun i => decide (at_ B (j + 1 + i) = at_ B j)).map fun i => j + 1 + i
end
end Zk.Bh
namespace Zk.Bh
noncomputable section
open PySem PySem.Spec PyProof.Rows L2 Zk Zk.Bc Zk.Bf Zk.Bg
theorem tk (s : List Int) (n : Nat) (h : 0 < n) : ∃ w : Nat, w < n ∧ S_law_take [dr s, .int (n : Int)] = some (.int (w : Int), 9, dr s.dropLast) := by
  obtain ⟨w, ew, hw⟩ := dvN s (n : Int) (by omega)
  have tk := take_eq s (n : Int) (by omega)
  rw [ew] at tk
  exact ⟨w, by omega, tk⟩
theorem half_W (s : List Int) {xs : List Nat} (hl : xs.length ≤ 1000) : W (S_law_half [dr s, .lst (xs.map iN)]) fun r => ∃ (ys : List Nat) (s' : List Int), r = (.lst (ys.map iN), 9, dr s') ∧ ys.length ≤ xs.length := by
  refine W_O fun Q' hQ => ?_
  unfold S_law_half S_law_halfb
  rw [W_mDef]
  have ix : imms (xs.map iN) = true := imms_map' (fun _ => rfl) _
  (refine Zk.W_seqE (E1 := ?wE226) ?wa226 ?wb226; (case wa226 => (simp (disch := first | assumption | (simp; done) | omega) [ent0_def]; exact rfl)))
  have e0 : D.lst [] = .lst (([] : List Nat).map iN) := rfl
  rw [e0]
  (refine Zk.W_forS ?wE328 xs iN [3] (fun (c : List Int × List Nat) _ => [(0, some (dr c.1, 1)), (2, some (.lst (c.2.map iN), 9))]) (fun c p => c.2.length ≤ p.length) ((s, []) : List Int × List Nat) ?wa328 ?wb328 ?_ ?_ ?_; (case wa328 => (simp (disch := first | assumption | (simp; done) | omega) [ix, -List.map_map]; exact rfl)); (case wb328 => (simp (disch := first | assumption | (simp; done) | omega) [Zk.sets, ix, -List.map_map])))
  · exact Nat.le_refl _
  · rintro ⟨s, ys⟩ p x q I' e hP hI
    simp only [Zk.AllU, Zk.sets, List.set_cons_succ, List.set_cons_zero, List.set_nil] at *
    intro u3
    refine W_tgV.mpr ⟨by simp, ?_⟩
    obtain ⟨w, hw, t1⟩ := tk s 2 (by decide)
    have t1 : S_law_take [dr s, .int 2] = some (.int (w : Int), 9, dr s.dropLast) := t1
    have pl : p.length ≤ 1000 := by
      have := congrArg List.length e
      simp at this
      omega
    have zs : ys.length < sizeLine := by
      rw [sizeL]
      have : ys.length ≤ p.length := hP
      omega
    have mt : (ys.map iN) ++ [iN x] = (ys ++ [x]).map iN := by simp
    refine W_end ?_
    by_cases c : w = 0
    · simp (disch := first | assumption | (simp; done) | omega) [t1, c, zs, mt, dem1, -List.map_append]
      refine hI (s.dropLast, ys ++ [x]) ?_ _
      show (ys ++ [x]).length ≤ (p ++ [x]).length
      have : ys.length ≤ p.length := hP
      simp; omega
    · have c2 : ¬ (w : Int) = 0 := by omega
      simp (disch := first | assumption | (simp; done) | omega) [t1, c, c2, dem1]
      refine hI (s.dropLast, ys) ?_ _
      show ys.length ≤ (p ++ [x]).length
      have : ys.length ≤ p.length := hP
      simp; omega
  rintro ⟨s, ys⟩ hP
  simp only [Zk.AllU, Zk.sets, List.set_cons_succ, List.set_cons_zero, List.set_nil] at *
  intro u3
  have iy : imms (ys.map iN) = true := imms_map' (fun _ => rfl) _
  simp (disch := first | assumption | (simp; done) | omega) [iy, -List.map_map]
  exact hQ _ ⟨ys, s, rfl, hP⟩
theorem pick_tN (s : List Int) (L : List (List Nat)) (h : L ≠ []) : ∃ c ∈ L, S_law_pick [dr s, .lst (L.map tN)] = some (tN c, 9, dr s.dropLast) := by
  refine ⟨pk s L h, pk_mem, ?_⟩
  have := pick_eq (d := .lst (L.map tN)) (.inl rfl) s (by simpa using h) (by rw [pk_map (h := h)]; exact imm_tN _)
  rw [pk_map (h := h)] at this
  exact this
theorem pools_W (s : List Int) {n many : Nat} (hn : n < 11) (h0 : 0 < n) (hm : many ≤ 40) : W (S_law_pools [dr s, .int (n : Int), .int (many : Int)]) fun r => ∃ (ps : List (List Nat)) (s' : List Int), r = (pD ps, 9, dr s') ∧ small ps := by
  refine W_O fun Q' hQ => ?_
  unfold S_law_pools S_law_poolsb
  rw [W_mDef]
  obtain ⟨w, hw, t1⟩ := tk s (many + 1) (by omega)
  rw [show ((many + 1 : Nat) : Int) = (many : Int) + 1 by omega] at t1
  have rw' : rgOk (w : Int) := ⟨by omega, by omega⟩
  have rn : rgOk (n : Int) := ⟨by omega, by omega⟩
  (refine Zk.W_seqE (E1 := ?wE227) ?wa227 ?wb227; (case wa227 => (simp (disch := first | assumption | (simp; done) | omega) [ent0_def]; exact rfl)))
  have e0 : D.lst [] = .lst (([] : List (List Nat)).map tN) := rfl
  rw [e0]
  generalize s.dropLast = s1 at *
  (refine Zk.W_forN ?wE329 w [4, 5] (fun (c : List Int × List (List Nat)) _ => [(0, some (dr c.1, 1)), (3, some (.lst (c.2.map tN), 9))]) (fun c j => c.2.length ≤ j ∧ ∀ p ∈ c.2, p.length ≤ 100) ((s1, []) : List Int × List (List Nat)) ?wa329 ?wb329 ?_ ?_ ?_; (case wa329 => (simp (disch := first | assumption | (simp; done) | omega) [t1, rw', dem1, -List.map_map]; exact rfl)); (case wb329 => (simp (disch := first | assumption | (simp; done) | omega) [Zk.sets, t1, rw', dem1, -List.map_map])))
  · exact ⟨Nat.le_refl _, by simp⟩
  · rintro ⟨s, ps⟩ j I' hj ⟨hp1, hp2⟩ hI
    simp only [Zk.AllU, Zk.sets, List.set_cons_succ, List.set_cons_zero, List.set_nil] at *
    intro u4 u5
    refine W_tgV.mpr ⟨by simp, ?_⟩
    have gl : gLrg [.int (n : Int)] = some (.lst ((List.range n).map iN), 9) := by
      have ok : RgOk 0 (n : Int) := ⟨by decide, by decide, by omega, by omega, by omega⟩
      unfold gLrg
      simp only
      rw [if_pos ok, Int.toNat_natCast, rng0]
    have gt : gTrg [.int (n : Int)] = some (tN (List.range n), 0) := by
      have ok : RgOk 0 (n : Int) := ⟨by decide, by decide, by omega, by omega, by omega⟩
      unfold gTrg
      simp only
      rw [if_pos ok, Int.toNat_natCast, rng0]
      rfl
    (refine Zk.W_seqK fun Kq hKq => ?_; simp (disch := first | assumption | (simp; done) | omega) [dem1, gl]; refine ((half_W s (xs := List.range n) (by rw [List.length_range]; omega))).mono ?_; rintro _ ⟨ys, s, rfl, hy⟩; simp (disch := first | assumption | (simp; done) | omega) [dem1, gl]; refine hKq _ ?_; clear hKq Kq)
    rw [List.length_range] at hy
    obtain ⟨w1, hw1, t2⟩ := tk s 3 (by decide)
    have t2 : S_law_take [dr s, .int 3] = some (.int (w1 : Int), 9, dr s.dropLast) := t2
    refine W_seqO (J := fun E => ∃ (s' : List Int) (zs : List Nat) (l : Nat), zs.length ≤ 100 ∧ E = [some (dr s', 1), some (.int (n : Int), 0), some (.int (many : Int), 0), some (.lst (ps.map tN), 9), some (.int (j : Int), 0), some (tN zs, l)]) ?_ ?_
    · intro J' hJ
      by_cases c : w1 = 0
      · simp (disch := first | assumption | (simp; done) | omega) [t2, c, dem1]
        refine (law_set_W s.dropLast n 3 h0 (by decide)).mono ?_
        rintro _ ⟨ks, s', rfl, k1, k2, k3, k4⟩
        simp (disch := first | assumption | (simp; done) | omega) []
        exact hJ _ ⟨s', ks, _, by omega, rfl⟩
      · have c2 : ¬ (w1 : Int) = 0 := by omega
        simp (disch := first | assumption | (simp; done) | omega) [t2, c, c2, dem1]
        exact hJ _ ⟨s.dropLast, ys, _, by omega, rfl⟩
    rintro _ ⟨s2, zs, l, hz, rfl⟩
    obtain ⟨w2, hw2, t3⟩ := tk s2 12 (by decide)
    have t3 : S_law_take [dr s2, .int 12] = some (.int (w2 : Int), 9, dr s2.dropLast) := t3
    refine W_seqO (J := fun E => ∃ (s' : List Int) (zs : List Nat) (l l3 : Nat), zs.length ≤ 100 ∧ E = [some (dr s', 1), some (.int (n : Int), 0), some (.int (many : Int), 0), some (.lst (ps.map tN), 9), some (.int (j : Int), 0), some (tN zs, l)]) ?_ ?_
    · intro J' hJ
      have ips := imms_tNs ps
      have iz := imm_tN zs
      by_cases c : w2 = 0
      · obtain ⟨x, hx, g0⟩ : ∃ x, x.length ≤ 100 ∧ gIxd [.lst ((ps ++ [zs]).map tN), .int 0] = some (tN x, 0) := by
          cases ps with
          | nil => exact ⟨zs, hz, ix_l (i := 0) rfl⟩
          | cons p ps => exact ⟨p, hp2 p List.mem_cons_self, ix_l (i := 0) rfl⟩
        obtain ⟨y, hy2, pk1⟩ := pick_tN s2.dropLast [[], List.range n, x] (by simp)
        have pk2 : S_law_pick [dr s2.dropLast, .lst [.tup [], tN (List.range n), tN x]] = some (tN y, 9, dr s2.dropLast.dropLast) := pk1
        have ga : gAdd [.lst (ps.map tN), .lst [tN zs]] = some (.lst ((ps ++ [zs]).map tN), 9) := by
          have : D.lst [tN zs] = .lst ([zs].map tN) := rfl
          rw [this, gAdd_lst, List.length_map, List.length_map, if_pos (by rw [sizeL]; simp; omega), ← List.map_append, lev_tNs]
        have yl : y.length ≤ 100 := by
          simp only [List.mem_cons, List.not_mem_nil, or_false] at hy2
          rcases hy2 with rfl | rfl | rfl
          · simp
          · rw [List.length_range]; omega
          · exact hx
        have i2 := imms_tNs (ps ++ [zs])
        have i3 := imm_tN (List.range n)
        have i4 := imm_tN x
        simp (disch := first | assumption | (simp; done) | omega) [t3, c, ips, iz, ga, gt, g0, i2, i3, i4, pk2, dem1, -List.map_append, -W_pickL]
        exact hJ _ ⟨_, y, _, 0, yl, rfl⟩
      · have c2 : ¬ (w2 : Int) = 0 := by omega
        simp (disch := first | assumption | (simp; done) | omega) [t3, c, c2, dem1]
        exact hJ _ ⟨_, zs, _, 0, hz, rfl⟩
    rintro _ ⟨s3, zs, l, l3, hz, rfl⟩
    have iz := imm_tN zs
    have zl : ps.length < sizeLine := by rw [sizeL]; have : ps.length ≤ j := hp1; omega
    have mt : (ps.map tN) ++ [tN zs] = (ps ++ [zs]).map tN := by simp
    simp (disch := first | assumption | (simp; done) | omega) [iz, zl, mt, -List.map_append]
    refine hI (s3, ps ++ [zs]) ⟨?_, fun p hp => ?_⟩ _ _
    · have : ps.length ≤ j := hp1
      simp; omega
    · rcases List.mem_append.mp hp with h | h
      · exact hp2 p h
      · rw [List.mem_singleton.mp h]; exact hz
  rintro ⟨s, ps⟩ ⟨hp1, hp2⟩
  simp only [Zk.AllU, Zk.sets, List.set_cons_succ, List.set_cons_zero, List.set_nil] at *
  intro u4 u5
  have ips := imms_tNs ps
  simp (disch := first | assumption | (simp; done) | omega) [ips, -List.map_map]
  exact hQ _ ⟨ps, s, rfl, by have : ps.length ≤ w := hp1; omega, hp2⟩
theorem few_nil (n : Nat) : ∀ s, ([] : List Nat) ∈ few n s
  | 0 => List.mem_cons_self
  | s + 1 => List.mem_append_left _ (few_nil n s)
theorem few_ne (n s : Nat) : few n s ≠ [] := fun h => by
  have := few_nil n s
  rw [h] at this
  cases this
end
end Zk.Bh
namespace Zk
open PySem PySem.Spec PyProof.Rows L2
section
variable {prog : Program} {w : World} {A : Around} {R : Result → Shared → Prop} {I S : Addr} {fp wr : List Addr} {n : Nat} {P : Nat → Value → Prop} {St : Nat → Heap → Prop}
/-- the best one so far: none yet, or that of the first k + 1 -/
def bestL (v : Option Value) (c : Nat) : Obj := { cls := .type "list", dict := none, data := .seq (match v with | some v => #[v, v] | none => #[]) c, slots := #[] }
theorem min_goes (d : Value) (W : Walks prog w A.in1 I fp wr n P St) (bt : Nat → Nat → Bool) (hcmp : CmpOf prog w A.in1 .Lt P bt) (hSf : S ∉ fp) :
    ∀ (k j : Nat) (s : Shared) (cur : Option Value) (c : Nat), n - j = k → j ≤ n → St j s.heap → (cur = none → j = 0) → (∀ v, cur = some v → ∃ i, j = i + 1 ∧ P (argBest bt i) v) → s.heap.get? S = some (bestL cur c) →
    (∀ v h' tk, (n = 0 → v = d) → (0 < n → P (argBest bt (n - 1)) v) → (∀ b o, b ∉ wr → b ≠ S → s.heap.get? b = some o → h'.get? b = some o) → R (.ok (.ret v)) { s with heap := h', toks := tk }) →
    codeAny (model prog w) A (.builtin "min.loop" ⟨[.ref I, .none, .ref S], [(Str.ofString "default", d)]⟩) R s := by
  have hSw : S ∉ wr := fun h => hSf (W.sub _ h)
  have nm : (toString "min" ++ toString ".loop" : String) = "min.loop" := by decide
  intro k
  induction k with
  | zero =>
    intro j s cur c hk hj hst h0 h1 hS hR
    have hin : j = n := by omega
    subst hin
    refine codeAny_builtin PySem.F.entry_min_loop ?_
    rw [Around.under_plainId PySem.F.plain_min_loop _]
    show wpAny _ A.in1 (seqItems? (.ref S) >>= _) _ _ s
    cases cur with
    | none =>
      obtain rfl := h0 rfl
      refine wpAny_bind (wpAny_seqItems hS rfl ?_)
      show wpAny _ A.in1 (tryCatch (pyNext (.ref I)) _ >>= _) _ _ s
      refine wpAny_bind (wpAny_tryCatch (W.done s _ _ hst fun h' tk hk' => ?_))
      refine wpAny_bind (wpAny_rule ?_)
      refine wpAny_pure ?_
      exact hR d h' tk (fun _ => rfl) (fun h => absurd h (Nat.lt_irrefl _)) fun b o hb _ e => hk' b o hb e
    | some v =>
      obtain ⟨i, rfl, hp⟩ := h1 v rfl
      refine wpAny_bind (wpAny_seqItems hS rfl ?_)
      show wpAny _ A.in1 (tryCatch (pyNext (.ref I)) _ >>= _) _ _ s
      refine wpAny_bind (wpAny_tryCatch (W.done s _ _ hst fun h' tk hk' => ?_))
      have hS' := hk' S _ hSw hS
      show wpAny _ A.in1 (updateSeq S (fun _ => #[]) >>= _) _ _ _
      refine wpAny_bind ?_
      refine wpAny_updateSeq hS' rfl (wpAny_bind (wpAny_letGo (wpAny_pure ?_)))
      exact hR v _ tk (fun h => by omega) (fun _ => hp) fun b o hb hn e => (Heap.get?_update_other _ _ (Ne.symm hn)).trans (hk' b o hb e)
  | succ k ih =>
    intro j s cur c hk hj hst h0 h1 hS hR
    have hlt : j < n := by omega
    refine codeAny_builtin PySem.F.entry_min_loop ?_
    rw [Around.under_plainId PySem.F.plain_min_loop _]
    show wpAny _ A.in1 (seqItems? (.ref S) >>= _) _ _ s
    have on : ∀ (v : Value) (h' : Heap) (tk : Nat) (q : s.heap.get? S = some (bestL cur c)), (P (argBest bt j) v) → St (j + 1) h' → (∀ b o, b ∉ wr → s.heap.get? b = some o → h'.get? b = some o) → ∀ c', h'.get? S = some (bestL cur c') →
        codeAny (model prog w) A (.builtin "min.loop" ⟨[.ref I, .none, .ref S], [(Str.ofString "default", d)]⟩) R { s with heap := h'.update S (Obj.mapSeq fun _ => #[v, v]), toks := tk } := by
      intro v h' tk _ hp hst' hk' c' hS'
      obtain ⟨c2, e2⟩ : ∃ c2, Obj.mapSeq (fun _ => #[v, v]) (bestL cur c') = bestL (some v) c2 := by
        cases cur with
        | none => exact ⟨c' + 1, by simp [bestL, Obj.mapSeq]⟩
        | some u => exact ⟨c', by simp [bestL, Obj.mapSeq]⟩
      have hS2 := Heap.get?_update_self (Obj.mapSeq fun _ => #[v, v]) hS' rfl
      rw [e2] at hS2
      refine ih (j + 1) _ (some v) c2 (by omega) hlt (W.frame _ _ _ hst' fun b hbf o e => (Heap.get?_update_other _ _ (fun h : S = b => hSf (by rw [h]; exact hbf))).trans e) (fun h => by cases h) (fun v' h => by cases h; exact ⟨j, rfl, hp⟩) hS2 fun v' h2 t2 q0 q1 hk2 => ?_
      exact hR v' h2 t2 q0 q1 fun b o hb hn e => hk2 b o hb hn ((Heap.get?_update_other _ _ (Ne.symm hn)).trans (hk' b o hb e))
    cases cur with
    | none =>
      obtain rfl := h0 rfl
      refine wpAny_bind (wpAny_seqItems hS rfl ?_)
      show wpAny _ A.in1 (tryCatch (pyNext (.ref I)) _ >>= _) _ _ s
      refine wpAny_bind (wpAny_tryCatch (W.item 0 s _ _ hlt hst fun v h' tk hP hst' hk' => ?_))
      have hS' := hk' S _ hSw hS
      show wpAny _ A.in1 (updateSeq S (fun _ => #[v, v]) >>= _) _ _ _
      refine wpAny_bind ?_
      refine wpAny_updateSeq hS' rfl ?_
      rw [nm]
      exact wpAny_pure ⟨plainId_quiet PySem.F.plain_min_loop _, on v h' tk hS hP hst' hk' _ hS'⟩
    | some vb =>
      obtain ⟨i, rfl, hb⟩ := h1 vb rfl
      refine wpAny_bind (wpAny_seqItems hS rfl ?_)
      show wpAny _ A.in1 (tryCatch (pyNext (.ref I)) _ >>= _) _ _ s
      refine wpAny_bind (wpAny_tryCatch (W.item (i + 1) s _ _ hlt hst fun v h' tk hP hst' hk' => ?_))
      have hS' := hk' S _ hSw hS
      show wpAny _ A.in1 (tryCatch (holding [v, v] (richCompare .Lt v vb >>= _)) _ >>= _) _ _ _
      refine wpAny_bind (wpAny_tryCatch (wpAny_holding (wpAny_bind (hcmp (i + 1) (argBest bt i) v vb _ _ _ hP hb ?_))))
      refine wpAny_bind (wpAny_holding (wpAny_truthy_bool ?_))
      refine wpAny_bind (wpAny_letGo (wpAny_pure ?_))
      cases hc : bt (i + 1) (argBest bt i) with
      | true =>
        simp only [if_true]
        refine wpAny_bind ?_
        refine wpAny_updateSeq hS' rfl (wpAny_bind (wpAny_letGo ?_))
        rw [nm]
        exact wpAny_pure ⟨plainId_quiet PySem.F.plain_min_loop _, on v h' tk hS (by simp only [argBest, hc, if_true]; exact hP) hst' hk' _ hS'⟩
      | false =>
        simp only [Bool.false_eq_true, if_false]
        refine wpAny_bind (wpAny_letGo ?_)
        rw [nm]
        refine wpAny_pure ⟨plainId_quiet PySem.F.plain_min_loop _, ih (i + 1 + 1) _ (some vb) c (by omega) hlt hst' (fun h => by cases h) (fun v' h => by cases h; exact ⟨i + 1, rfl, by simp only [argBest, hc, Bool.false_eq_true, if_false]; exact hb⟩) hS' fun v' h2 t2 q0 q1 hk2 => ?_⟩
        exact hR v' h2 t2 q0 q1 fun b o hb' hn e => hk2 b o hb' hn (hk' b o hb' e)
end
theorem args_minD (a d : Value) : argsOk "min" ⟨[a], [(Str.ofString "default", d)]⟩ := by unfold argsOk; kernel_rfl
theorem bind_minD (d : Value) : Builtin.Builtins.bindParams "min" ["key", "default"] 0 ⟨[], [(Str.ofString "default", d)]⟩ = pure [none, some d] := by rfl
section
variable {prog : Program} {w : World} {A : Around} {E : Value → Shared → Prop} {s : Shared} {l : Addr} {xs : Array (Int × PySem.Tok)}
theorem call_tree_kw {id : String} {b : Builtin} {args : List Value} {kw : List (Str × Value)} {Q : Value → Shared → Prop} (hk : builtinKind id = none) (hp : plainId id = true) (hb : entryFor table id = some b) (ha : argsOk id ⟨args, kw⟩)
    (hc : wpAny (model prog w) A.in1 (b ⟨args, kw⟩) (fun fin s' => match fin with
      | .done f => (match (Except.ok f : Result) with | .ok (.ret v) => Q v s' | .ok _ => False | .error e => E e s')
      | .again c' => c'.quiet = true ∧ codeAny (model prog w) A c' (fun r s' => match r with | .ok (.ret v) => Q v s' | .ok _ => False | .error e => E e s') s') E s) : wpAny (model prog w) A (call (.builtin id) args kw) Q E s := by
  refine wpAny_call (codeAny_call_builtin hp hb ?_)
  simp only [checkBuiltinCall, hk]
  cases hsig : Manifest.signature? id with
  | none => exact wpAny_pure hc
  | some sig =>
    have ha' : Bind.checkArgs id sig ⟨args, kw⟩ = pure () := by simpa only [argsOk, hsig] using ha
    simp only [ha']
    exact wpAny_pure hc
theorem min_dflt {d : Value} {Q : Value → Shared → Prop} (hh : A.handled = none) (hl : s.heap.IsList l (intItems xs))
    (h : ∀ v h' tk, (xs.size = 0 → v = d) → (0 < xs.size → (intItems xs)[argBest (fun i j => decide (numAt xs i < numAt xs j)) (xs.size - 1)]? = some v) → (∀ b o, s.heap.get? b = some o → h'.get? b = some o) → Q v { s with heap := h', toks := tk }) :
    wpAny (model prog w) A (call (.builtin "min") [.ref l] [(Str.ofString "default", d)]) Q E s := by
  have nm : (toString "min" ++ toString ".loop" : String) = "min.loop" := by decide
  refine call_tree_kw PySem.F.kind_min PySem.F.plain_min PySem.F.entry_min (args_minD _ d) ?_
  show wpAny _ A.in1 (Builtin.Builtins.bindParams "min" ["key", "default"] 0 ⟨[], [(Str.ofString "default", d)]⟩ >>= _) _ _ s
  refine wpAny_bind (wpAny_of_eq (bind_minD d) ?_)
  refine wpAny_bind (wpAny_pure ?_)
  refine wpAny_bind (iter_intList hl fun s₂ e st hfp hlI => ?_)
  subst e
  refine wpAny_bind (wpAny_newObj_type ?_)
  have W := Walks.list (prog := prog) (w := w) (A := A.in1) hh s.heap.objs.size l hlI (intItems xs)
  have hSf : (s.heap.push { cls := .type "list_iterator", data := .fields #[.ref l, .int 0 0] }).objs.size ∉ [s.heap.objs.size, l] := fun hm => Nat.lt_irrefl _ (hfp _ hm)
  rw [nm]
  refine wpAny_pure ⟨plainId_quiet PySem.F.plain_min_loop _, min_goes d W _ (CmpOf.ints_lt (numAt xs) (fun _ _ => intItems_at)) hSf _ 0 _ none 0 rfl (Nat.zero_le _) (W.frame _ _ _ st fun b _ o e => Heap.get?_push_of_some _ e) (fun _ => rfl) (fun _ h => by cases h) (Heap.get?_push_size _ rfl) fun v h' tk q0 q1 hk => ?_⟩
  refine h v h' tk (fun h => q0 (by simpa [intItems] using h)) (fun h => by simpa [intItems] using q1 (by simpa [intItems] using h)) fun b o e => ?_
  have e1 := Heap.get?_push_of_some { cls := .type "list_iterator", data := .fields #[.ref l, .int 0 0] } e
  refine hk b o (fun hm => ?_) (Nat.ne_of_lt (Heap.lt_size e1)) (Heap.get?_push_of_some _ e1)
  rcases List.mem_cons.mp hm with e2 | hm
  · exact absurd (e2 ▸ Heap.lt_size e) (Nat.lt_irrefl _)
  · cases hm
end
section
variable {K : PySem.W.Frag}
/-- the least one, or what was named -/
def rMinD (K : PySem.W.Frag) (dv : V) : List V → List V → Hp → VK → Prop := fun vs zs H Q => ∃ (a : Addr) (ns : List Int), vs = [V.ref a] ∧ zs = [dv] ∧ SqL K H a (ns.map V.int) ∧
  (ns = [] → Q dv H) ∧ (ns ≠ [] → Q (.int (minL ns)) H)
variable {X : Cx}
theorem cr_minD {dv : V} (hc : X.calm = true) : CallRK X (.builtin "min") [Str.ofString "default"] (rMinD X.K dv) := by
  intro pins s σ H vs zs us ws Q I r rz h
  obtain ⟨a, ns, rfl, rfl, hs, q0, q1⟩ := h
  obtain rfl := Vals.ref1 r
  obtain ⟨w1, rfl, e1⟩ := vals1 rz
  obtain ⟨its, rv, hl, _⟩ := I.list hs
  obtain ⟨xs, e⟩ := rv.ints.allInts.items
  have hn : numsOf (intItems xs).toList = ns := by rw [← e]; exact rv.ints.numsOf
  rw [nums_intItems] at hn
  have hl := hl.isList
  rw [e] at hl
  show wpAny _ _ (call (.builtin "min") [.ref a] [(Str.ofString "default", w1)]) _ _ _
  refine min_dflt (I.ok.hd hc) hl fun v h' tk z0 z1 hk => ?_
  by_cases c : xs.size = 0
  · obtain rfl := z0 c
    have : ns = [] := by
      obtain rfl : xs = #[] := Array.eq_empty_of_size_eq_zero c
      rw [← hn]; rfl
    exact ⟨dv, H, I.kept hk, e1, q0 this⟩
  · have hp : 0 < xs.size := by omega
    obtain ⟨t, rfl⟩ := intItems_at (z1 hp)
    obtain ⟨h1, h2⟩ := argBest_lt (numAt xs) (xs.size - 1)
    have ne : ns ≠ [] := fun z => by
      rw [z] at hn
      have e0 : xs.toList = [] := List.map_eq_nil_iff.mp hn
      have : xs.size = 0 := by rw [← Array.length_toList, e0]; rfl
      omega
    obtain ⟨m1, m2⟩ := minL_mem ne
    have em : numAt xs (argBest (fun i j => decide (numAt xs i < numAt xs j)) (xs.size - 1)) = minL ns := by
      subst hn
      refine Int.le_antisymm ?_ (m2 _ ?_)
      · obtain ⟨j, hj, ej⟩ := mem_getD m1
        rw [List.length_map, Array.length_toList] at hj
        rw [← ej, ← numAt_eq]
        exact h2 j (by omega)
      · rw [numAt_eq]; exact PySem.getD_mem (by rw [List.length_map, Array.length_toList]; omega)
    rw [em]
    exact ⟨.int _, H, I.kept hk, ⟨_, rfl⟩, q1 ne⟩
def gMinD (dd : D) : List D → Option (D × Nat)
  | [.lst ds] => (iof ds).map fun ns => if ns = [] then (dd, 9) else (.int (minL ns), 9)
  | _ => none
theorem al_minD {dv : V} {dd : D} (hr : ∀ Z H, Rp K Z H dv dd) (hi : imm dd = true) : AL K (fun vs H Q => rMinD K dv vs [dv] H Q) (gMinD dd) := by
  intro Z H vs ds d n Q hz k e q
  unfold gMinD at e
  split at e
  · rename_i ds
    cases e1 : iof ds with
    | none => rw [e1] at e; cases e
    | some ns =>
      rw [e1, Option.map_some] at e
      cases iof_eq e1
      obtain ⟨x, rfl, ⟨p, xs, rfl, hp, r⟩⟩ := k.one
      cases r.ints
      refine ⟨p, ns, rfl, rfl, .inl (.inl hp), fun hn => ?_, fun hn => ?_⟩
      · rw [if_pos hn] at e
        cases e
        exact fin_imm (Z := Z) (hr _ _) hi q
      · rw [if_neg hn] at e
        cases e
        exact fin_imm (Z := Z) (.int _) (by simp) q
  · cases e
variable {a : Expr} {fe : Fe} {p pos kpos q1 : PySem.Pos} {j : Nat}
def mMinD (dd : D) (a : Fe) : Fe := mOp (gMinD dd) (mAc a mA0)
/-- min(ints, default=None) -/
theorem ae_minDN {x : Str} (hg : Gl X x) (hm : X.mg x = none) (ha : AE X a fe) (hc : X.calm = true := by rfl) (hx : bootBuiltins x = some (.builtin "min") := by exact boot_min) (hn : x ≠ "__name__" := by decide) (hdb : (x == ("__debug__" : Str)) = false := by decide)
    (he : starEach [a] X.env = (false, eval a X.env) :: starEach [] X.env := by rfl) (he2 : backTo pos (starEach [a] X.env) = (false, eval a X.env) :: backTo pos (starEach [] X.env) := by rfl) (hpl : (backTo pos (starEach [a] X.env)).any (·.1) = false := by rfl) :
    AE X (.Call (.Name x p) [a] [⟨some "default", .Constant .none j q1, kpos⟩] pos) (mMinD .non fe) :=
  PE.mono (pe_callBK (ks := [Str.ofString "default"]) (cr_minD (dv := .non) hc) hg hm hx (aa_cons ha aa_nil he) (pk_cons pe_non pk_nil) hn hdb he2 hpl) fun σ H Q q => by
    exact op_of (al_minD (K := X.K) (fun _ _ => .non) rfl) q
@[simp ↓] theorem W_minD {E : Ev} {dd : D} {Qe : Op × Ev → Prop} : W (mMinD dd fe E) Qe ↔ W (mOp (gMinD dd) (mA1 fe) E) Qe := by rw [mA1_eq]; exact Iff.rfl
@[simp] theorem gMinD_ints (dd : D) (ns : List Int) : gMinD dd [.lst (ns.map D.int)] = some (if ns = [] then (dd, 9) else (.int (minL ns), 9)) := by simp [gMinD, iof_map]
end
end Zk
namespace Zk
noncomputable section
open PySem PySem.Spec PyProof.Rows L2
def S_unlike_placesb : Fs := (mRet (mOp gLen (mAc (mLc (mZip (mVar 0) (mVar 1)) [2, 3] (tgT 2 (tgC (tgV 2) (tgC (tgV 3) tgN))) (mB (mNe (mVar 2) (mVar 3))) (mC (.int 1))) mA0)))
def S_unlike_places : Mir := mDef none 4 S_unlike_placesb
def S_pool_distanceb : Fs := (mSeq (mSet 3 (mLc (mSq (mCall none S_small_sets (mAc (mVar 1) (mAc (mVar 2) mA0)))) [4] (tgV 4) mYes (mCall none S_pool_answers (mAc (mVar 0) (mAc (mVar 4) mA0))))) (mRet (mMinD .non (mLc (mCmb (mVar 3) (mC (.int 2))) [5, 6] (tgT 2 (tgC (tgV 5) (tgC (tgV 6) tgN))) mYes (mCall none S_unlike_places (mAc (mVar 5) (mAc (mVar 6) mA0)))))))
def S_pool_distance : Mir := mDef none 7 S_pool_distanceb
def S_fitting_with_faultsb : Fs := (mSeq (mSet 5 (mCall none S_small_sets (mAc (mVar 1) (mAc (mVar 3) mA0)))) (mRet (mOp gTuple (mAc (mLc (mSq (mVar 5)) [6] (tgV 6) (mB (mLe (mCall none S_unlike_places (mAc (mCall none S_pool_answers (mAc (mVar 0) (mAc (mVar 6) mA0))) (mAc (mVar 2) mA0))) (mVar 4))) (mVar 6)) mA0))))
def S_fitting_with_faults : Mir := mDef none 7 S_fitting_with_faultsb
def S_bit_poolsb : Fs := (mRet (mOp gTuple (mAc (mLc (mRg1 (mBits (mVar 0))) [2] (tgV 2) mYes (mOp gTuple (mAc (mLc (mRg1 (mVar 0)) [1] (tgV 1) (mTr (mAnd (mShr (mAdd (mVar 1) (mC (.int 1))) (mVar 2)) (mC (.int 1)))) (mVar 1)) mA0))) mA0)))
def S_bit_pools : Mir := mDef none 3 S_bit_poolsb
def S_found_by_halvesb : Fs := (mSeq (mSet 2 (mLst (mAc (mTup (mAc (mTrg1 (mVar 0)) (mAc (mC (.bl false)) mA0))) mA0))) (mSeq (mSet 3 (mLst mA0)) (mSeq (mSet 4 (mC (.int 0))) (mSeq (mWhile (mTr (mVar 2)) (mSeq (mAsg (tgT 2 (tgC (tgV 5) (tgC (tgV 6) tgN))) (mPop 2)) (mSeq (mIfS (mNotT (mTr (mVar 6))) (mSeq (mSet 4 (mAdd (mVar 4) (mC (.int 1)))) (mIfS (mNotT (mTr (mOp gAny (mAc (mLc (mSq (mVar 5)) [7] (tgV 7) mYes (mIn (mVar 7) (mVar 1))) mA0)))) mCt mNx)) mNx) (mSeq (mIfS (mB (mEq (mOp gLen (mAc (mVar 5) mA0)) (mC (.int 1)))) (mSeq (mEx (mApp 3 (mIxd (mVar 5) (mC (.int 0))))) mCt) mNx) (mSeq (mSet 8 (mDiv (mAdd (mOp gLen (mAc (mVar 5) mA0)) (mC (.int 1))) (mC (.int 2)))) (mSeq (mSet 4 (mAdd (mVar 4) (mC (.int 1)))) (mIfS (mTr (mOp gAny (mAc (mLc (mSq (mSl (mVar 5) (mC .non) (mInt (mVar 8)))) [7] (tgV 7) mYes (mIn (mVar 7) (mVar 1))) mA0))) (mSeq (mEx (mApp 2 (mTup (mAc (mSl (mVar 5) (mInt (mVar 8)) (mC .non)) (mAc (mC (.bl false)) mA0))))) (mEx (mApp 2 (mTup (mAc (mSl (mVar 5) (mC .non) (mInt (mVar 8))) (mAc (mC (.bl true)) mA0)))))) (mEx (mApp 2 (mTup (mAc (mSl (mVar 5) (mInt (mVar 8)) (mC .non)) (mAc (mC (.bl true)) mA0)))))))))))) (mRet (mTup (mAc (mOp gTuple (mAc (mVar 3) mA0)) (mAc (mVar 4) mA0))))))))
def S_found_by_halves : Mir := mDef none 9 S_found_by_halvesb
def S_law_off_k58b : Fs := (mRet (mOp gLen (mAc (mLc (mRg1 (mOp gLen (mAc (mVar 0) mA0))) [2] (tgV 2) (mB (mNe (mIxd (mVar 0) (mVar 2)) (mIxd (mVar 1) (mVar 2)))) (mVar 2)) mA0)))
def S_law_off_k58 : Mir := mDef none 3 S_law_off_k58b
def S_law_distanceb : Fs := (mSeq (mSet 3 (mLc (mSq (mCall none S_law_few_sets (mAc (mVar 1) (mAc (mVar 2) mA0)))) [4] (tgV 4) mYes (mCall none S_law_said (mAc (mVar 0) (mAc (mVar 4) mA0))))) (mSeq (mSet 5 (mC .non)) (mSeq (mFor (mRg1 (mOp gLen (mAc (mVar 3) mA0))) (tgV 6) (mFor (mRg1 (mVar 6)) (tgV 7) (mSeq (mSet 8 (mCall none S_law_off_k58 (mAc (mIxd (mVar 3) (mVar 6)) (mAc (mIxd (mVar 3) (mVar 7)) mA0)))) (mIfS (mOrT (mB (mIsN (mVar 5))) (mB (mLt (mVar 8) (mVar 5)))) (mSet 5 (mVar 8)) mNx)))) (mRet (mVar 5)))))
def S_law_distance : Mir := mDef none 9 S_law_distanceb
def S_law_halvesb : Fs := (mSeq (mSet 2 (mC (.int 0))) (mSeq (mSet 3 (mLst (mAc (mTup (mAc (mC (.int 0)) (mAc (mVar 0) (mAc (mC (.int 1)) mA0)))) mA0))) (mSeq (mFor (mRg1 (mC (.int 80))) (tgV 4) (mSeq (mIfS (mB (mEq (mOp gLen (mAc (mVar 3) mA0)) (mC (.int 0)))) mBk mNx) (mSeq (mAsg (tgT 3 (tgC (tgV 5) (tgC (tgV 6) (tgC (tgV 7) tgN)))) (mPop 3)) (mSeq (mIfS (mB (mEq (mVar 7) (mC (.int 1)))) (mSeq (mSet 2 (mAdd (mVar 2) (mC (.int 1)))) (mIfS (mB (mNotIn (mC (.bl true)) (mLc (mSq (mVar 1)) [8] (tgV 8) mYes (mAndV (mLe (mVar 5) (mVar 8)) (mLt (mVar 8) (mVar 6)))))) mCt mNx)) mNx) (mIfS (mB (mGt (mSub (mVar 6) (mVar 5)) (mC (.int 1)))) (mSeq (mSet 9 (mAdd (mVar 5) (mDiv (mAdd (mSub (mVar 6) (mVar 5)) (mC (.int 1))) (mC (.int 2))))) (mSeq (mSet 2 (mAdd (mVar 2) (mC (.int 1)))) (mIfS (mB (mIn (mC (.bl true)) (mLc (mSq (mVar 1)) [8] (tgV 8) mYes (mAndV (mLe (mVar 5) (mVar 8)) (mLt (mVar 8) (mVar 9)))))) (mSeq (mEx (mApp 3 (mTup (mAc (mVar 9) (mAc (mVar 6) (mAc (mC (.int 1)) mA0)))))) (mEx (mApp 3 (mTup (mAc (mVar 5) (mAc (mVar 9) (mAc (mC (.int 0)) mA0))))))) (mEx (mApp 3 (mTup (mAc (mVar 9) (mAc (mVar 6) (mAc (mC (.int 0)) mA0))))))))) mNx))))) (mRet (mVar 2)))))
def S_law_halves : Mir := mDef none 10 S_law_halvesb
def S_law_faultyb : Fs := (mSeq (mSet 3 (mVar 1)) (mSeq (mFor (mRg1 (mVar 2)) (tgV 4) (mIfS (mB (mGt (mOp gLen (mAc (mVar 3) mA0)) (mC (.int 0)))) (mSeq (mSet 5 (mCall (some 0) S_law_take (mAc (mVar 0) (mAc (mOp gLen (mAc (mVar 3) mA0)) mA0)))) (mSet 3 (mCall none S_law_put (mAc (mVar 3) (mAc (mVar 5) (mAc (mSub (mC (.int 1)) (mIxd (mVar 3) (mVar 5))) mA0)))))) mNx)) (mRet (mVar 3))))
def S_law_faulty : Mir := mDef (some 0) 6 S_law_faultyb
end
end Zk
namespace Zk.Bh
noncomputable section
open PySem PySem.Spec PyProof.Rows L2 Zk Zk.Bc Zk.Bf Zk.Bg
def off : List Nat → List Nat → Nat
  | x :: a, y :: b => (if x = y then 0 else 1) + off a b
  | _, _ => 0
theorem off_zip : ∀ a b : List Nat, off a b = ((a.zip b).filter fun p => decide (p.1 ≠ p.2)).length
  | [], b => by cases b <;> rfl
  | _ :: _, [] => rfl
  | x :: a, y :: b => by
    have ih := off_zip a b
    rw [List.zip_cons_cons, List.filter_cons, off, ih]
    by_cases h : x = y
    · simp [h]
    · simp [h]; omega
theorem off_comm : ∀ a b : List Nat, off a b = off b a
  | [], b => by cases b <;> rfl
  | _ :: _, [] => rfl
  | x :: a, y :: b => by
    have ih := off_comm a b
    rw [off, off, ih]
    by_cases h : x = y
    · rw [if_pos h, if_pos h.symm]
    · rw [if_neg h, if_neg fun e => h e.symm]
theorem off_tri : ∀ a b c : List Nat, a.length = b.length → b.length = c.length → off a c ≤ off a b + off b c
  | [], _, _, _, _ => by simp [off]
  | x :: a, y :: b, z :: c, h1, h2 => by
    have ih := off_tri a b c (by simpa using h1) (by simpa using h2)
    rw [off, off, off]
    by_cases e1 : x = y
    · subst e1
      by_cases e3 : x = z
      · rw [if_pos e3, if_pos rfl]; omega
      · rw [if_neg e3, if_pos rfl]; omega
    · rw [if_neg e1]
      split <;> split <;> omega
  | _ :: _, [], _, h1, _ => by simp at h1
  | _ :: _, _ :: _, [], _, h2 => by simp at h2
theorem zip_at (a b : List Nat) (h : a.length = b.length) : a.zip b = (List.range a.length).map fun k => (a.getD k 0, b.getD k 0) := by
  refine List.ext_getElem? fun k => ?_
  rw [List.getElem?_map]
  by_cases c : k < a.length
  · rw [List.getElem?_range c, Option.map_some, List.getElem?_eq_getElem (by rw [List.length_zip]; omega), List.getElem_zip, List.getD_eq_getElem?_getD, List.getD_eq_getElem?_getD, List.getElem?_eq_getElem c, List.getElem?_eq_getElem (by omega)]
    rfl
  · rw [List.getElem?_eq_none (by rw [List.length_zip]; omega), List.getElem?_eq_none (by rw [List.length_range]; omega)]
    rfl
theorem off_at (a b : List Nat) (h : a.length = b.length) : off a b = ((List.range a.length).filter fun k => decide (a.getD k 0 ≠ b.getD k 0)).length := by
  rw [off_zip, zip_at a b h, List.filter_map, List.length_map]
  rfl
theorem ziD_nn : ∀ (a b : List Nat), ziD (a.map iN) (b.map iN) = (a.zip b).map fun q => .tup [iN q.1, iN q.2]
  | [], b => by cases b <;> simp [ziD]
  | _ :: _, [] => by simp [ziD]
  | p :: a, q :: b => by simp [ziD, ziD_nn a b]
theorem unlike_W {a b : List Nat} (ha : a.length ≤ 1000) : S_unlike_places [tN a, tN b] = some (.int (off a b : Int), 9, .non) := by
  have go : W (S_unlike_places [tN a, tN b]) fun r => r = (.int (off a b : Int), 9, .non) := by
    refine W_O fun Q' hQ => ?_
    unfold S_unlike_places S_unlike_placesb
    rw [W_mDef]
    have ea : tN a = .tup (a.map iN) := rfl
    have eb : tN b = .tup (b.map iN) := rfl
    have zz := ziD_nn a b
    have zl : (a.zip b).length ≤ 1000 := by rw [List.length_zip]; omega
    rw [ea, eb]
    simp (disch := first | assumption | (simp; done) | omega) [ent0_def, W_lc0, zz, -List.map_map]
    refine W_lcX (xs := a.zip b) (ι := fun q : Nat × Nat => .tup [iN q.1, iN q.2]) (fun q => decide (q.1 ≠ q.2)) (fun _ => .int 1) (fun _ => rfl) (by rw [sizeL]; omega) (fun q _ => ?_) fun acc ha hu => ?_
    · by_cases c : q.1 = q.2
      · simp (disch := first | assumption | (simp; done) | omega) [c]
      · have c2 : ¬ (q.1 : Int) = (q.2 : Int) := by omega
        simp (disch := first | assumption | (simp; done) | omega) [c, c2]
    · have e1 : acc.length = off a b := by
        have := congrArg List.length ha
        rw [List.length_map, List.length_map] at this
        rw [off_zip]
        exact this
      simp (disch := first | assumption | (simp; done) | omega) [hu, e1]
      exact hQ _ rfl
  obtain ⟨r, e, rfl⟩ := go
  exact e
theorem law_off_W {a b : List Nat} (ha : a.length ≤ 1000) (hl : a.length = b.length) : S_law_off_k58 [tN a, tN b] = some (.int (off a b : Int), 9, .non) := by
  have go : W (S_law_off_k58 [tN a, tN b]) fun r => r = (.int (off a b : Int), 9, .non) := by
    refine W_O fun Q' hQ => ?_
    unfold S_law_off_k58 S_law_off_k58b
    rw [W_mDef]
    have gl : gLen [tN a] = some (.int (a.length : Int), 9) := by unfold tN; rw [gLen_tup, List.length_map]
    have rl : rgOk (a.length : Int) := ⟨by omega, by omega⟩
    have ia := imm_tN a
    have ib := imm_tN b
    simp (disch := first | assumption | (simp; done) | omega) [ent0_def, W_lc0, gl, rl, ia, ib, rng0, -List.map_map]
    refine W_lcX (xs := List.range a.length) (ι := fun b : Nat => D.int (b : Int)) (fun k => decide (a.getD k 0 ≠ b.getD k 0)) iN (fun _ => rfl) (by rw [sizeL, List.length_range]; omega) (fun k hk => ?_) fun acc ha hu => ?_
    · have hk := List.mem_range.mp hk
      have g1 : gIxd [tN a, .int (k : Int)] = some (iN (a.getD k 0), 0) := ix_t (by rw [List.getD_eq_getElem?_getD, List.getElem?_eq_getElem hk]; rfl)
      have g2 : gIxd [tN b, .int (k : Int)] = some (iN (b.getD k 0), 0) := ix_t (by rw [List.getD_eq_getElem?_getD, List.getElem?_eq_getElem (by omega)]; rfl)
      generalize a.getD k 0 = x at *
      generalize b.getD k 0 = y at *
      by_cases c : x = y
      · simp (disch := first | assumption | (simp; done) | omega) [g1, g2, c]
      · have c2 : ¬ (x : Int) = (y : Int) := by omega
        simp (disch := first | assumption | (simp; done) | omega) [g1, g2, c, c2]
    · have e1 : acc.length = off a b := by
        have := congrArg List.length ha
        rw [List.length_map, List.length_map] at this
        rw [off_at a b hl]
        exact this
      simp (disch := first | assumption | (simp; done) | omega) [hu, e1]
      exact hQ _ rfl
  obtain ⟨r, e, rfl⟩ := go
  exact e
def Lw (f : Nat → Nat → Nat) (R : Nat → Nat → Prop) : Option Nat → Prop
  | none => ∀ i k, ¬ R i k
  | some d => (∃ i k, R i k ∧ f i k = d) ∧ ∀ i k, R i k → d ≤ f i k
theorem Lw.congr {f : Nat → Nat → Nat} {R R' : Nat → Nat → Prop} {o : Option Nat} (h : Lw f R o) (e : ∀ i k, R i k ↔ R' i k) : Lw f R' o := by
  have : R = R' := by funext i k; exact propext (e i k)
  rw [← this]; exact h
theorem Lw.one {f : Nat → Nat → Nat} {R : Nat → Nat → Prop} : ∀ {o p : Option Nat}, Lw f R o → Lw f R p → o = p
  | none, none, _, _ => rfl
  | none, some d, h1, ⟨⟨i, k, h2, _⟩, _⟩ => absurd h2 (h1 i k)
  | some d, none, ⟨⟨i, k, h2, _⟩, _⟩, h1 => absurd h2 (h1 i k)
  | some d, some e, ⟨⟨i, k, a1, a2⟩, a3⟩, ⟨⟨j, l, b1, b2⟩, b3⟩ => by
    have := a3 j l b1
    have := b3 i k a1
    rw [show d = e by omega]
def lwN (f : Nat → Nat → Nat) (j k : Nat) : Option Nat → Nat
  | none => f j k
  | some d => if f j k < d then f j k else d
theorem Lw.add {f : Nat → Nat → Nat} {R : Nat → Nat → Prop} {o : Option Nat} (h : Lw f R o) (j k : Nat) : Lw f (fun i l => R i l ∨ (i = j ∧ l = k)) (some (lwN f j k o)) := by
  cases o with
  | none =>
    refine ⟨⟨j, k, .inr ⟨rfl, rfl⟩, rfl⟩, fun i l hr => ?_⟩
    rcases hr with hr | ⟨rfl, rfl⟩
    · exact absurd hr (h i l)
    · exact Nat.le_refl _
  | some d =>
    obtain ⟨⟨i, l, a1, a2⟩, a3⟩ := h
    by_cases c : f j k < d
    · rw [show lwN f j k (some d) = f j k from if_pos c]
      refine ⟨⟨j, k, .inr ⟨rfl, rfl⟩, rfl⟩, fun i l hr => ?_⟩
      rcases hr with hr | ⟨rfl, rfl⟩
      · have := a3 i l hr; omega
      · exact Nat.le_refl _
    · rw [show lwN f j k (some d) = d from if_neg c]
      refine ⟨⟨i, l, .inl a1, a2⟩, fun i l hr => ?_⟩
      rcases hr with hr | ⟨rfl, rfl⟩
      · exact a3 i l hr
      · omega
def dO : Option Nat → D
  | none => .non
  | some d => iN d
def prs (N : Nat) : List (Nat × Nat) := (List.range N).flatMap fun i => (List.range (N - i - 1)).map fun j => (i, i + 1 + j)
theorem mem_prs {N i j : Nat} : (i, j) ∈ prs N ↔ i < j ∧ j < N := by
  unfold prs
  rw [List.mem_flatMap]
  constructor
  · rintro ⟨a, ha, h⟩
    obtain ⟨b, hb, e⟩ := List.mem_map.mp h
    have := List.mem_range.mp ha
    have := List.mem_range.mp hb
    cases e
    omega
  · rintro ⟨h1, h2⟩
    exact ⟨i, List.mem_range.mpr (by omega), List.mem_map.mpr ⟨j - i - 1, List.mem_range.mpr (by omega), by congr 1; omega⟩⟩
theorem ckP : ∀ n, n < 11 → ∀ s, s < 4 → (s < 3 ∨ n < 7) → (combE (few n s).length 2 == some ((prs (few n s).length).map fun p => [p.1, p.2])) = true := by decide +kernel
theorem ckQ : ∀ n, n < 11 → ∀ s, s < 4 → (s < 3 ∨ n < 7) → (prs (few n s).length).length ≤ 2000 := by decide +kernel
end
end Zk.Bh
namespace Zk.Bh
noncomputable section
open PySem PySem.Spec PyProof.Rows L2 Zk Zk.Bc Zk.Bf Zk.Bg
def fO (ps : List (List Nat)) (L : List (List Nat)) (i k : Nat) : Nat := off (ans ps (at_ L i)) (ans ps (at_ L k))
theorem distance_W {ps : List (List Nat)} {n s : Nat} (hn : n < 11) (hs : s < 4) (hns : s < 3 ∨ n < 7) (hp : small ps) : ∃ o l, Lw (fO ps (few n s)) (fun i k => i < k ∧ k < (few n s).length) o ∧ S_pool_distance [pD ps, .int (n : Int), .int (s : Int)] = some (dO o, l, .non) := by
  have go : W (S_pool_distance [pD ps, .int (n : Int), .int (s : Int)]) fun r => ∃ o l, Lw (fO ps (few n s)) (fun i k => i < k ∧ k < (few n s).length) o ∧ r = (dO o, l, .non) := by
    refine W_O fun Q' hQ => ?_
    unfold S_pool_distance S_pool_distanceb
    rw [W_mDef]
    have sw := small_sets_W hn hs
    have sl := few_len hn hs
    have iS := imms_tNs (few n s)
    have ip := imm_pD ps
    have cP := ckP n hn s hs hns
    have cQ := ckQ n hn s hs hns
    have fm : ∀ c ∈ few n s, c.length ≤ 100 := fun c hc => by
      obtain ⟨m1, m2, m3, m4⟩ := few_mem hn hs hc
      omega
    generalize few n s = L at *
    have cP : combE L.length 2 = some ((prs L.length).map fun p => [p.1, p.2]) := by simpa using cP
    refine W_seqO (J := fun E => ∃ a4, E = [some (pD ps, 0), some (.int (n : Int), 0), some (.int (s : Int), 0), some (.lst ((L.map (ans ps)).map tN), 9), a4, none, none]) ?_ ?_
    · intro J' hJ
      simp (disch := first | assumption | (simp; done) | omega) [ent0_def, W_lc0, sw, iS, ip, dem1, -List.map_map]
      refine W_lcY (xs := L) (ι := tN) (fun c => tN (ans ps c)) (fun _ => imm_tN _) (by rw [sizeL]; omega) (fun c hc => ?_) fun acc ha hu => ?_
      · have aw := answers_W hp (ks := c) (fm c hc)
        simp (disch := first | assumption | (simp; done) | omega) [aw, ip, imm_tN, dem1]
      · have e1 : acc.map (·.1) = (L.map (ans ps)).map tN := by rw [ha, List.map_map]; rfl
        simp (disch := first | assumption | (simp; done) | omega) [e1, hu, -List.map_map]
        exact hJ _ ⟨_, rfl⟩
    rintro _ ⟨a4, rfl⟩
    have iB := imms_tNs (L.map (ans ps))
    have r2 : rOk 2 = true := rOk_n (r := 2) (by decide)
    have cd : cmbD ((L.map (ans ps)).map tN) ((prs L.length).map fun p => [p.1, p.2]) = (prs L.length).map fun p => D.tup [tN (ans ps (at_ L p.1)), tN (ans ps (at_ L p.2))] := by
      unfold cmbD
      rw [List.map_map]
      refine List.map_congr_left fun p hp2 => ?_
      obtain ⟨h1, h2⟩ := mem_prs.mp hp2
      have g : ∀ i, i < L.length → ((L.map (ans ps)).map tN).getD i .non = tN (ans ps (at_ L i)) := fun i hi => by
        rw [List.getD_eq_getElem?_getD, List.getElem?_map, List.getElem?_map, at_get hi]; rfl
      simp only [Function.comp_apply, pickD, List.map_cons, List.map_nil]
      rw [g _ (by omega), g _ (by omega)]
    simp (disch := first | assumption | (simp; done) | omega) [W_lc0, iB, -List.map_map]
    refine ⟨r2, ?_⟩
    rw [cP, W_some, cd]
    refine W_lcN (xs := prs L.length) (ι := fun p => D.tup [tN (ans ps (at_ L p.1)), tN (ans ps (at_ L p.2))]) (fun p => (fO ps L p.1 p.2 : Int)) (by rw [sizeL]; omega) (fun p hp2 => ?_) fun acc ha hu => ?_
    · have uw := unlike_W (a := ans ps (at_ L p.1)) (b := ans ps (at_ L p.2)) (by rw [ans_len]; have := hp.1; omega)
      have i1 := imm_tN (ans ps (at_ L p.1))
      have i2 := imm_tN (ans ps (at_ L p.2))
      have ef : fO ps L p.1 p.2 = off (ans ps (at_ L p.1)) (ans ps (at_ L p.2)) := rfl
      rw [← ef] at uw
      simp (disch := first | assumption | (simp; done) | omega) [uw, i1, i2, dem1]
    · by_cases c : (prs L.length).map (fun p => (fO ps L p.1 p.2 : Int)) = []
      · have lw : Lw (fO ps L) (fun i k => i < k ∧ k < L.length) none := fun i k h => by
          have := mem_prs.mpr h
          rw [List.map_eq_nil_iff.mp c] at this
          cases this
        have gm : gMinD .non [.lst (((prs L.length).map fun p => (fO ps L p.1 p.2 : Int)).map D.int)] = some (.non, 9) := by rw [gMinD_ints, if_pos c]
        simp (disch := first | assumption | (simp; done) | omega) [ha, hu, gm, -List.map_map, -gMinD_ints]
        exact hQ _ ⟨none, _, lw, rfl⟩
      · obtain ⟨m1, m2⟩ := minL_mem c
        obtain ⟨p, hp1, hp2⟩ := List.mem_map.mp m1
        have lw : Lw (fO ps L) (fun i k => i < k ∧ k < L.length) (some (fO ps L p.1 p.2)) := by
          refine ⟨⟨p.1, p.2, mem_prs.mp hp1, rfl⟩, fun i k h => ?_⟩
          have := m2 _ (List.mem_map.mpr ⟨(i, k), mem_prs.mpr h, rfl⟩)
          rw [← hp2] at this
          have this : (fO ps L p.1 p.2 : Int) ≤ (fO ps L i k : Int) := this
          omega
        have gm : gMinD .non [.lst (((prs L.length).map fun p => (fO ps L p.1 p.2 : Int)).map D.int)] = some (iN (fO ps L p.1 p.2), 9) := by rw [gMinD_ints, if_neg c, ← hp2]
        simp (disch := first | assumption | (simp; done) | omega) [ha, hu, gm, -List.map_map, -gMinD_ints]
        exact hQ _ ⟨_, _, lw, rfl⟩
  obtain ⟨r, e, o, l, h, rfl⟩ := go
  exact ⟨o, l, h, e⟩
theorem law_distance_W {ps : List (List Nat)} {n s : Nat} (hn : n < 11) (hs : s < 4) (hp : small ps) : ∃ o l, Lw (fO ps (few n s)) (fun i k => i < k ∧ k < (few n s).length) o ∧ S_law_distance [pD ps, .int (n : Int), .int (s : Int)] = some (dO o, l, .non) := by
  have go : W (S_law_distance [pD ps, .int (n : Int), .int (s : Int)]) fun r => ∃ o l, Lw (fO ps (few n s)) (fun i k => i < k ∧ k < (few n s).length) o ∧ r = (dO o, l, .non) := by
    refine W_O fun Q' hQ => ?_
    unfold S_law_distance S_law_distanceb
    rw [W_mDef]
    have sw := few_sets_W hn hs
    have sl := few_len hn hs
    have iS := imms_tNs (few n s)
    have ip := imm_pD ps
    have fm : ∀ c ∈ few n s, c.length ≤ 100 := fun c hc => by
      obtain ⟨m1, m2, m3, m4⟩ := few_mem hn hs hc
      omega
    generalize few n s = L at *
    refine W_seqO (J := fun E => ∃ a4, E = [some (pD ps, 0), some (.int (n : Int), 0), some (.int (s : Int), 0), some (.lst ((L.map (ans ps)).map tN), 9), a4, none, none, none, none]) ?_ ?_
    · intro J' hJ
      simp (disch := first | assumption | (simp; done) | omega) [ent0_def, W_lc0, sw, iS, ip, dem1, -List.map_map]
      refine W_lcY (xs := L) (ι := tN) (fun c => tN (ans ps c)) (fun _ => imm_tN _) (by rw [sizeL]; omega) (fun c hc => ?_) fun acc ha hu => ?_
      · have aw := said_W hp (ks := c) (fm c hc)
        simp (disch := first | assumption | (simp; done) | omega) [aw, ip, imm_tN, dem1]
      · have e1 : acc.map (·.1) = (L.map (ans ps)).map tN := by rw [ha, List.map_map]; rfl
        simp (disch := first | assumption | (simp; done) | omega) [e1, hu, -List.map_map]
        exact hJ _ ⟨_, rfl⟩
    rintro _ ⟨a4, rfl⟩
    obtain ⟨B, hB⟩ : ∃ B, B = L.map (ans ps) := ⟨_, rfl⟩
    rw [← hB]
    (refine Zk.W_seqE (E1 := ?wE228) ?wa228 ?wb228; (case wa228 => (simp (disch := first | assumption | (simp; done) | omega) []; exact rfl)))
    have bl : B.length = L.length := by rw [hB, List.length_map]
    have ba : ∀ i, i < L.length → B[i]? = some (ans ps (at_ L i)) := fun i hi => by rw [hB, List.getElem?_map, at_get hi]; rfl
    have rl : rgOk (L.length : Int) := ⟨by omega, by omega⟩
    have iB := imms_tNs B
    have dn : dO none = .non := rfl
    (refine Zk.W_forN ?wE331 L.length [6, 7, 8] (fun (c : Option Nat × Nat) _ => [(5, some (dO c.1, c.2))]) (fun c k => Lw (fO ps L) (fun i l => i < l ∧ l < k) c.1) ((none, 9) : Option Nat × Nat) ?wa331 ?wb331 ?_ ?_ ?_; (case wa331 => (simp (disch := first | assumption | (simp; done) | omega) [rl, bl, dn]; exact rfl)); (case wb331 => (simp (disch := first | assumption | (simp; done) | omega) [Zk.sets, rl, bl, dn])))
    · intro i k h; omega
    · rintro ⟨o, lv⟩ k I' hk hP hI
      simp only [Zk.AllU, Zk.sets, List.set_cons_succ, List.set_cons_zero, List.set_nil] at *
      intro u6 u7 u8
      refine W_tgV.mpr ⟨by simp, ?_⟩
      have rk : rgOk (k : Int) := ⟨by omega, by omega⟩
      refine W_end ?_
      (refine Zk.W_forN ?wE332 k [7, 8] (fun (c : Option Nat × Nat) _ => [(5, some (dO c.1, c.2))]) (fun c j => Lw (fO ps L) (fun i l => (i < l ∧ l < k) ∨ (l = k ∧ i < j)) c.1) ((o, lv) : Option Nat × Nat) ?wa332 ?wb332 ?_ ?_ ?_; (case wa332 => (simp (disch := first | assumption | (simp; done) | omega) [rk]; exact rfl)); (case wb332 => (simp (disch := first | assumption | (simp; done) | omega) [Zk.sets, rk])))
      · exact Lw.congr hP fun i l => by omega
      · rintro ⟨o, lv⟩ j I2 hj hP2 hI2
        simp only [Zk.AllU, Zk.sets, List.set_cons_succ, List.set_cons_zero, List.set_nil] at *
        intro u7 u8
        refine W_tgV.mpr ⟨by simp, ?_⟩
        have g1 : gIxd [.lst (B.map tN), .int (k : Int)] = some (tN (ans ps (at_ L k)), 0) := ix_l (ba k hk)
        have g2 : gIxd [.lst (B.map tN), .int (j : Int)] = some (tN (ans ps (at_ L j)), 0) := ix_l (ba j (by omega))
        have ow := law_off_W (a := ans ps (at_ L k)) (b := ans ps (at_ L j)) (by rw [ans_len]; have := hp.1; omega) (by rw [ans_len, ans_len])
        rw [off_comm] at ow
        have ef : fO ps L j k = off (ans ps (at_ L j)) (ans ps (at_ L k)) := rfl
        rw [← ef] at ow
        have i1 := imm_tN (ans ps (at_ L k))
        have i2 := imm_tN (ans ps (at_ L j))
        have ad := (hP2.add j k).congr (R' := fun i l => (i < l ∧ l < k) ∨ (l = k ∧ i < j + 1)) fun i l => by omega
        cases o with
        | none =>
          refine W_end ?_
          simp (disch := first | assumption | (simp; done) | omega) [g1, g2, ow, i1, i2, iB, dn, gIsN, dem1]
          exact hI2 (_, _) ad _ _
        | some d =>
          have ds : dO (some d) = iN d := rfl
          refine W_end ?_
          by_cases c : fO ps L j k < d
          · have c2 : (fO ps L j k : Int) < (d : Int) := by omega
            rw [show lwN (fO ps L) j k (some d) = fO ps L j k from if_pos c] at ad
            simp (disch := first | assumption | (simp; done) | omega) [g1, g2, ow, i1, i2, iB, ds, c, c2, gIsN, dem1]
            exact hI2 (_, _) ad _ _
          · have c2 : ¬ (fO ps L j k : Int) < (d : Int) := by omega
            rw [show lwN (fO ps L) j k (some d) = d from if_neg c] at ad
            simp (disch := first | assumption | (simp; done) | omega) [g1, g2, ow, i1, i2, iB, ds, c, c2, gIsN, dem1]
            exact hI2 (some d, _) ad _ _
      rintro ⟨o, lv⟩ hP2
      simp only [Zk.AllU, Zk.sets, List.set_cons_succ, List.set_cons_zero, List.set_nil] at *
      intro u7 u8
      simp (disch := first | assumption | (simp; done) | omega) []
      exact hI (o, lv) (hP2.congr fun i l => by omega) _ _ _
    rintro ⟨o, lv⟩ hP
    simp only [Zk.AllU, Zk.sets, List.set_cons_succ, List.set_cons_zero, List.set_nil] at *
    intro u6 u7 u8
    have io : imm (dO o) = true := by cases o <;> rfl
    simp (disch := first | assumption | (simp; done) | omega) [io]
    exact hQ _ ⟨o, _, hP, rfl⟩
  obtain ⟨r, e, o, l, h, rfl⟩ := go
  exact ⟨o, l, h, e⟩
/-- the sets with at most e faults -/
def fitE (ps : List (List Nat)) (as : List Nat) (e : Nat) (L : List (List Nat)) : List (List Nat) := L.filter fun c => decide (off (ans ps c) as ≤ e)
theorem faults_W {ps : List (List Nat)} {as : List Nat} {n s e : Nat} (hn : n < 11) (hs : s < 4) (hp : small ps) : S_fitting_with_faults [pD ps, .int (n : Int), tN as, .int (s : Int), .int (e : Int)] = some (.tup ((fitE ps as e (few n s)).map tN), 9, .non) := by
  have go : W (S_fitting_with_faults [pD ps, .int (n : Int), tN as, .int (s : Int), .int (e : Int)]) fun r => r = (.tup ((fitE ps as e (few n s)).map tN), 9, .non) := by
    refine W_O fun Q' hQ => ?_
    unfold S_fitting_with_faults S_fitting_with_faultsb
    rw [W_mDef]
    have sw := small_sets_W hn hs
    have sl := few_len hn hs
    have iS := imms_tNs (few n s)
    have ip := imm_pD ps
    have ia := imm_tN as
    (refine Zk.W_seqE (E1 := ?wE229) ?wa229 ?wb229; (case wa229 => (simp (disch := first | assumption | (simp; done) | omega) [ent0_def, sw, iS, ip, ia, dem1]; exact rfl)))
    simp (disch := first | assumption | (simp; done) | omega) [W_lc0, iS, -List.map_map]
    refine W_lcX (xs := few n s) (ι := tN) (fun c => decide (off (ans ps c) as ≤ e)) tN (fun _ => imm_tN _) (by rw [sizeL]; omega) (fun c hc => ?_) fun acc ha hu => ?_
    · obtain ⟨m1, m2, m3, m4⟩ := few_mem hn hs hc
      have aw := answers_W hp (ks := c) (by omega)
      have uw := unlike_W (a := ans ps c) (b := as) (by rw [ans_len]; have := hp.1; omega)
      have i1 := imm_tN (ans ps c)
      by_cases d : off (ans ps c) as ≤ e
      · have d2 : (off (ans ps c) as : Int) ≤ (e : Int) := by omega
        simp (disch := first | assumption | (simp; done) | omega) [aw, uw, i1, ip, ia, d, d2, dem1, imm_tN]
      · have d2 : ¬ (off (ans ps c) as : Int) ≤ (e : Int) := by omega
        simp (disch := first | assumption | (simp; done) | omega) [aw, uw, i1, ip, ia, d, d2, dem1, imm_tN]
    · have e1 : acc.map (·.1) = (fitE ps as e (few n s)).map tN := ha
      simp (disch := first | assumption | (simp; done) | omega) [e1, hu, -List.map_map]
      exact hQ _ rfl
  obtain ⟨r, e, rfl⟩ := go
  exact e
theorem map_at_self (L : List (List Nat)) : L = (List.range L.length).map (at_ L) := by
  have := map_at id L
  simpa using this
/-- at a distance above twice the faults at most one set fits -/
theorem one_fits {ps : List (List Nat)} {as : List Nat} {L : List (List Nat)} {e : Nat} {o : Option Nat} (hl : as.length = ps.length) (h : Lw (fO ps L) (fun i k => i < k ∧ k < L.length) o) (ho : ∀ d, o = some d → 2 * e < d) : (fitE ps as e L).length ≤ 1 := by
  rcases Nat.lt_or_ge 1 (fitE ps as e L).length with c | c
  · exfalso
    unfold fitE at c
    rw [map_at_self L, List.filter_map, List.length_map] at c
    have pw : ((List.range L.length).filter ((fun c => decide (off (ans ps c) as ≤ e)) ∘ at_ L)).Pairwise (· < ·) := List.Pairwise.filter _ List.pairwise_lt_range
    have mem : ∀ i, i ∈ (List.range L.length).filter ((fun c => decide (off (ans ps c) as ≤ e)) ∘ at_ L) → i < L.length ∧ off (ans ps (at_ L i)) as ≤ e := fun i hi => by
      rw [List.mem_filter, List.mem_range] at hi
      exact ⟨hi.1, of_decide_eq_true hi.2⟩
    generalize (List.range L.length).filter ((fun c => decide (off (ans ps c) as ≤ e)) ∘ at_ L) = F at *
    match F, c, pw, mem with
    | i :: k :: F, _, pw, mem =>
      have lt := (List.pairwise_cons.mp pw).1 k (by simp)
      obtain ⟨a1, a2⟩ := mem i (by simp)
      obtain ⟨b1, b2⟩ := mem k (by simp)
      have tri := off_tri (ans ps (at_ L i)) as (ans ps (at_ L k)) (by rw [ans_len, hl]) (by rw [ans_len, hl])
      rw [off_comm as] at tri
      cases o with
      | none => exact h i k ⟨lt, b1⟩
      | some d =>
        have h1 := h.2 i k ⟨lt, b1⟩
        have h2 := ho d rfl
        have e1 : fO ps L i k = off (ans ps (at_ L i)) (ans ps (at_ L k)) := rfl
        omega
  · exact c
end
end Zk.Bh
namespace Zk.Bh
noncomputable section
open PySem PySem.Spec PyProof.Rows L2 Zk Zk.Bc Zk.Bf Zk.Bg
def bitsL (n : Nat) : List Nat := (List.range 4).filter fun b => decide (0 < n / 2 ^ b)
def bitP (n : Nat) : List (List Nat) := (bitsL n).map fun b => (List.range n).filter fun x => decide ((x + 1) / 2 ^ b % 2 = 1)
theorem ckB : ∀ n : Nat, n < 11 → Builtin.Int.intBits (n : Int) = (bitsL n).length ∧ bitsL n = List.range (bitsL n).length ∧ (bitsL n).length ≤ 4 := by decide +kernel
theorem ckT : ∀ n, n < 11 → 0 < n → ∀ i, i < (few n 1).length → ¬ fo ((few n 1).map (ans (bitP n))) (at_ ((few n 1).map (ans (bitP n))) i) < i := by decide +kernel
theorem bit_is (x b : Nat) : Builtin.bitAnd (((x : Int) + 1) / 2 ^ (b : Int).toNat) 1 = (((x + 1) / 2 ^ b % 2 : Nat) : Int) := by
  rw [bitAnd_m1, Int.toNat_natCast]
  have e : ((x : Int) + 1) / 2 ^ b = (((x + 1) / 2 ^ b : Nat) : Int) := by
    rw [Int.natCast_ediv, Int.natCast_pow]
    rfl
  rw [e]
  rfl
theorem bit_pools_W {n : Nat} (hn : n < 11) : S_bit_pools [.int (n : Int)] = some (pD (bitP n), 9, .non) := by
  have go : W (S_bit_pools [.int (n : Int)]) fun r => r = (pD (bitP n), 9, .non) := by
    refine W_O fun Q' hQ => ?_
    unfold S_bit_pools S_bit_poolsb
    rw [W_mDef]
    obtain ⟨b1, b2, b3⟩ := ckB n hn
    have rn : rgOk (n : Int) := ⟨by omega, by omega⟩
    have rb : rgOk ((bitsL n).length : Int) := ⟨by omega, by omega⟩
    simp (disch := first | assumption | (simp; done) | omega) [ent0_def, b1, rb, rng0, W_lc0, -List.map_map]
    rw [← b2]
    refine W_lcY (xs := bitsL n) (ι := fun b : Nat => D.int (b : Int)) (fun b => tN ((List.range n).filter fun x => decide ((x + 1) / 2 ^ b % 2 = 1))) (fun _ => imm_tN _) (by rw [sizeL]; omega) (fun b hb => ?_) fun acc ha hu => ?_
    · simp (disch := first | assumption | (simp; done) | omega) [rn, rng0, W_lc0, -List.map_map]
      refine W_lcX (xs := List.range n) (ι := fun b : Nat => D.int (b : Int)) (fun x => decide ((x + 1) / 2 ^ b % 2 = 1)) iN (fun _ => rfl) (by rw [sizeL, List.length_range]; omega) (fun x _ => ?_) fun acc ha hu => ?_
      · have bi := bit_is x b
        have m2 : (x + 1) / 2 ^ b % 2 = 0 ∨ (x + 1) / 2 ^ b % 2 = 1 := by omega
        rw [Int.toNat_natCast] at bi
        rcases m2 with m2 | m2
        · rw [m2] at bi
          simp (disch := first | assumption | (simp; done) | omega) [bi, m2]
        · rw [m2] at bi
          simp (disch := first | assumption | (simp; done) | omega) [bi, m2]
      · simp (disch := first | assumption | (simp; done) | omega) [ha, hu, -List.map_map]
        rfl
    · have e1 : acc.map (·.1) = (bitP n).map tN := by rw [ha]; unfold bitP; rw [List.map_map]; rfl
      have ib := imms_tNs (bitP n)
      simp (disch := first | assumption | (simp; done) | omega) [e1, hu, ib, -List.map_map]
      exact hQ _ rfl
  obtain ⟨r, e, rfl⟩ := go
  exact e
end
end Zk.Bh
namespace Zk.Bh
structure Seg where
  lo : Nat
  hi : Nat
  op : Bool
structure St where
  st : List Seg
  a : Nat
  fd : List Nat
def inS (lo hi k : Nat) : Bool := decide (lo ≤ k) && decide (k < hi)
def nz (ch : List Nat) (lo hi : Nat) : Bool := ch.any (inS lo hi)
def mid (s : Seg) : Nat := s.lo + (s.hi - s.lo + 1) / 2
def b2n (b : Bool) : Nat := if b = true then 1 else 0
def stp (ch : List Nat) (S : St) : St := match S.st with
  | [] => S
  | s :: r =>
    if (s.op && !nz ch s.lo s.hi) = true then ⟨r, S.a + 1, S.fd⟩
    else if s.hi - s.lo ≤ 1 then ⟨r, S.a + b2n s.op, S.fd ++ [s.lo]⟩
    else if nz ch s.lo (mid s) = true then ⟨⟨s.lo, mid s, false⟩ :: ⟨mid s, s.hi, true⟩ :: r, S.a + b2n s.op + 1, S.fd⟩
    else ⟨⟨mid s, s.hi, false⟩ :: r, S.a + b2n s.op + 1, S.fd⟩
def run (ch : List Nat) (n : Nat) : Nat → St
  | 0 => ⟨[⟨0, n, true⟩], 0, []⟩
  | k + 1 => stp ch (run ch n k)
def L2 (m : Nat) : Nat := ((List.range 5).filter fun b => decide (2 ^ b < m)).length
def part (ch : List Nat) (lo hi : Nat) : List Nat := ch.filter (inS lo hi)
def pot (ch : List Nat) (s : Seg) : Nat := b2n s.op + 2 * (part ch s.lo s.hi).length * L2 (s.hi - s.lo)
def pots (ch : List Nat) (st : List Seg) : Nat := (st.map (pot ch)).sum
def meas (st : List Seg) : Nat := (st.map fun s => 2 * (s.hi - s.lo) - 1).sum
def rest (ch : List Nat) (st : List Seg) : List Nat := st.flatMap fun s => part ch s.lo s.hi
def okS (ch : List Nat) (s : Seg) : Prop := s.lo < s.hi ∧ s.hi ≤ 10 ∧ (s.op = false → nz ch s.lo s.hi = true)
theorem part_split {ch : List Nat} (hs : ch.Pairwise (· < ·)) {lo m hi : Nat} (h1 : lo ≤ m) (h2 : m ≤ hi) : part ch lo hi = part ch lo m ++ part ch m hi := by
  induction ch with
  | nil => rfl
  | cons x ch ih =>
    obtain ⟨p1, p2⟩ := List.pairwise_cons.mp hs
    have ih := ih p2
    unfold part at ih ⊢
    rw [List.filter_cons, List.filter_cons, List.filter_cons, ih]
    by_cases c1 : x < lo
    · have e1 : inS lo hi x = false := by simp [inS]; omega
      have e2 : inS lo m x = false := by simp [inS]; omega
      have e3 : inS m hi x = false := by simp [inS]; omega
      simp [e1, e2, e3]
    · by_cases c2 : x < m
      · have e1 : inS lo hi x = true := by simp [inS]; omega
        have e2 : inS lo m x = true := by simp [inS]; omega
        have e3 : inS m hi x = false := by simp [inS]; omega
        simp [e1, e2, e3]
      · have e2 : inS lo m x = false := by simp [inS]; omega
        have em : ch.filter (inS lo m) = [] := List.filter_eq_nil_iff.mpr fun y hy => by
          have := p1 y hy
          simp [inS]; omega
        by_cases c3 : x < hi
        · have e1 : inS lo hi x = true := by simp [inS]; omega
          have e3 : inS m hi x = true := by simp [inS]; omega
          simp [e1, e2, e3, em]
        · have e1 : inS lo hi x = false := by simp [inS]; omega
          have e3 : inS m hi x = false := by simp [inS]; omega
          simp [e1, e2, e3]
theorem part_no {ch : List Nat} {lo hi : Nat} (h : nz ch lo hi = false) : part ch lo hi = [] := by
  unfold part
  rw [List.filter_eq_nil_iff]
  intro x hx h2
  unfold nz at h
  rw [List.any_eq_false] at h
  exact h x hx h2
theorem part_yes {ch : List Nat} {lo hi : Nat} (h : nz ch lo hi = true) : 1 ≤ (part ch lo hi).length := by
  unfold nz at h
  obtain ⟨x, hx, e⟩ := List.any_eq_true.mp h
  exact List.length_pos_of_mem (List.mem_filter.mpr ⟨hx, e⟩)
theorem nz_part {ch : List Nat} {lo hi : Nat} (h : 1 ≤ (part ch lo hi).length) : nz ch lo hi = true := by
  cases e : nz ch lo hi with
  | true => rfl
  | false => rw [part_no e] at h; simp at h
theorem part_one {ch : List Nat} (hs : ch.Pairwise (· < ·)) {lo hi : Nat} (h : nz ch lo hi = true) (h1 : hi = lo + 1) : part ch lo hi = [lo] := by
  subst h1
  induction ch with
  | nil => simp [nz] at h
  | cons x ch ih =>
    obtain ⟨p1, p2⟩ := List.pairwise_cons.mp hs
    unfold part at ih ⊢
    rw [List.filter_cons]
    by_cases c : x = lo
    · subst c
      have e1 : inS x (x + 1) x = true := by simp [inS]
      have em : ch.filter (inS x (x + 1)) = [] := List.filter_eq_nil_iff.mpr fun y hy => by
        have := p1 y hy
        simp [inS]; omega
      rw [if_pos e1, em]
    · have e1 : inS lo (lo + 1) x = false := by simp [inS]; omega
      unfold nz at h
      rw [List.any_cons, e1, Bool.false_or] at h
      rw [e1]
      exact ih p2 h
theorem ckL2 : ∀ m, m < 11 → 2 ≤ m → L2 ((m + 1) / 2) + 1 ≤ L2 m ∧ L2 (m - (m + 1) / 2) + 1 ≤ L2 m := by decide +kernel
def Inv (ch : List Nat) (n k : Nat) (S : St) : Prop := (∀ s ∈ S.st, okS ch s) ∧ S.fd ++ rest ch S.st = ch ∧ S.a + pots ch S.st ≤ 1 + 2 * ch.length * L2 n ∧ (S.st = [] ∨ meas S.st + k ≤ 19)
theorem inv_stp {ch : List Nat} (hs : ch.Pairwise (· < ·)) {n k : Nat} {S : St} (h : Inv ch n k S) : Inv ch n (k + 1) (stp ch S) := by
  obtain ⟨i1, i2, i3, i4⟩ := h
  obtain ⟨st, a, fd⟩ := S
  dsimp only at i1 i2 i3 i4
  cases st with
  | nil => exact ⟨i1, i2, i3, .inl rfl⟩
  | cons s r =>
    obtain ⟨lo, hi, op⟩ := s
    obtain ⟨o1, o2, o3⟩ := i1 _ List.mem_cons_self
    dsimp only at o1 o2 o3
    have ir : ∀ s ∈ r, okS ch s := fun s hs => i1 s (List.mem_cons_of_mem _ hs)
    have i4 : meas (⟨lo, hi, op⟩ :: r) + k ≤ 19 := by rcases i4 with h | h; cases h; exact h
    have em : meas (⟨lo, hi, op⟩ :: r) = (2 * (hi - lo) - 1) + meas r := by unfold meas; rw [List.map_cons, List.sum_cons]
    have ep : pots ch (⟨lo, hi, op⟩ :: r) = b2n op + 2 * (part ch lo hi).length * L2 (hi - lo) + pots ch r := by unfold pots; rw [List.map_cons, List.sum_cons]; rfl
    have er : rest ch (⟨lo, hi, op⟩ :: r) = part ch lo hi ++ rest ch r := by unfold rest; rw [List.flatMap_cons]
    rw [em] at i4
    rw [ep] at i3
    rw [er] at i2
    unfold stp
    dsimp only
    by_cases c1 : (op && !nz ch lo hi) = true
    · rw [if_pos c1]
      simp only [Bool.and_eq_true, Bool.not_eq_true'] at c1
      have pn := part_no c1.2
      rw [pn] at i2 i3
      have : b2n op = 1 := by rw [c1.1]; rfl
      refine ⟨ir, i2, ?_, .inr (show meas r + (k + 1) ≤ 19 by omega)⟩
      show a + 1 + pots ch r ≤ _
      simp at i3
      omega
    · rw [if_neg c1]
      have hz : nz ch lo hi = true := by
        cases op with
        | false => exact o3 rfl
        | true => simpa using c1
      by_cases c2 : hi - lo ≤ 1
      · rw [if_pos c2]
        have e1 := part_one hs hz (by omega)
        rw [e1] at i2 i3
        refine ⟨ir, ?_, ?_, .inr (show meas r + (k + 1) ≤ 19 by omega)⟩
        · show (fd ++ [lo]) ++ rest ch r = ch
          rw [List.append_assoc]; exact i2
        · show a + b2n op + pots ch r ≤ _
          have := Nat.zero_le (2 * [lo].length * L2 (hi - lo))
          omega
      · rw [if_neg c2]
        obtain ⟨m, hm⟩ : ∃ m, m = mid ⟨lo, hi, op⟩ := ⟨_, rfl⟩
        rw [← hm]
        have hm2 : m = lo + (hi - lo + 1) / 2 := hm
        obtain ⟨l1, l2⟩ := ckL2 (hi - lo) (by omega) (by omega)
        have sp := part_split hs (lo := lo) (m := m) (hi := hi) (by omega) (by omega)
        have pl := part_yes hz
        rw [sp] at i2 i3 pl
        rw [List.length_append] at i3 pl
        have e1 : m - lo = (hi - lo + 1) / 2 := by omega
        have e2 : hi - m = (hi - lo) - (hi - lo + 1) / 2 := by omega
        rw [← e1] at l1
        rw [← e2] at l2
        generalize L2 (hi - lo) = T at *
        by_cases c3 : nz ch lo m = true
        · rw [if_pos c3]
          refine ⟨fun s hs => ?_, ?_, ?_, .inr ?_⟩
          · rcases List.mem_cons.mp hs with rfl | hs
            · exact ⟨show lo < m by omega, show m ≤ 10 by omega, fun _ => c3⟩
            · rcases List.mem_cons.mp hs with rfl | hs
              · exact ⟨show m < hi by omega, o2, fun h => by cases h⟩
              · exact ir s hs
          · show fd ++ (part ch lo m ++ (part ch m hi ++ rest ch r)) = ch
            rw [List.append_assoc] at i2
            exact i2
          · show a + b2n op + 1 + (b2n false + 2 * (part ch lo m).length * L2 (m - lo) + (b2n true + 2 * (part ch m hi).length * L2 (hi - m) + pots ch r)) ≤ _
            have y1 : (part ch lo m).length * L2 (m - lo) ≤ (part ch lo m).length * (T - 1) := Nat.mul_le_mul_left _ (by omega)
            have y2 : (part ch m hi).length * L2 (hi - m) ≤ (part ch m hi).length * (T - 1) := Nat.mul_le_mul_left _ (by omega)
            have z0 : b2n false = 0 := rfl
            have z1 : b2n true = 1 := rfl
            generalize (part ch lo m).length = p at *
            generalize (part ch m hi).length = q at *
            obtain ⟨t, rfl⟩ : ∃ t, T = t + 1 := ⟨T - 1, by omega⟩
            have w1 : 2 * (p + q) * (t + 1) = 2 * (p * t) + 2 * (q * t) + 2 * (p + q) := by grind
            rw [w1] at i3
            rw [Nat.mul_assoc 2 p, Nat.mul_assoc 2 q]
            simp only [Nat.add_sub_cancel] at y1 y2
            omega
          · show (2 * (m - lo) - 1) + ((2 * (hi - m) - 1) + meas r) + (k + 1) ≤ 19
            omega
        · rw [if_neg c3]
          have pn := part_no (by simpa using c3 : nz ch lo m = false)
          rw [pn] at i2 i3 pl
          simp only [List.length_nil, Nat.zero_add, List.nil_append] at i2 i3 pl
          refine ⟨fun s hs => ?_, i2, ?_, .inr ?_⟩
          · rcases List.mem_cons.mp hs with rfl | hs
            · exact ⟨show m < hi by omega, o2, fun _ => nz_part pl⟩
            · exact ir s hs
          · show a + b2n op + 1 + (b2n false + 2 * (part ch m hi).length * L2 (hi - m) + pots ch r) ≤ _
            have y2 : (part ch m hi).length * L2 (hi - m) ≤ (part ch m hi).length * (T - 1) := Nat.mul_le_mul_left _ (by omega)
            have z0 : b2n false = 0 := rfl
            generalize (part ch m hi).length = q at *
            obtain ⟨t, rfl⟩ : ∃ t, T = t + 1 := ⟨T - 1, by omega⟩
            have w1 : 2 * q * (t + 1) = 2 * (q * t) + 2 * q := by grind
            rw [w1] at i3
            rw [Nat.mul_assoc 2 q]
            simp only [Nat.add_sub_cancel] at y2
            omega
          · show (2 * (hi - m) - 1) + meas r + (k + 1) ≤ 19
            omega
theorem part_all {ch : List Nat} {n : Nat} (h : ∀ k ∈ ch, k < n) : part ch 0 n = ch := List.filter_eq_self.mpr fun k hk => by
  have := h k hk
  simp [inS, this]
theorem inv_run {ch : List Nat} (hs : ch.Pairwise (· < ·)) {n : Nat} (hc : ∀ k ∈ ch, k < n) (h0 : 0 < n) (hn : n < 11) : ∀ k, Inv ch n k (run ch n k)
  | 0 => by
    refine ⟨fun s hs => ?_, ?_, ?_, .inr ?_⟩
    · rw [List.mem_singleton.mp hs]
      exact ⟨h0, show n ≤ 10 by omega, fun h => by cases h⟩
    · show [] ++ (part ch 0 n ++ []) = ch
      rw [part_all hc]; simp
    · show 0 + (b2n true + 2 * (part ch 0 n).length * L2 (n - 0) + 0) ≤ _
      rw [part_all hc]
      have : b2n true = 1 := rfl
      rw [Nat.sub_zero]
      omega
    · show (2 * (n - 0) - 1) + 0 + 0 ≤ 19
      omega
  | k + 1 => inv_stp hs (inv_run hs hc h0 hn k)
theorem run_more {ch : List Nat} {n k : Nat} (h : (run ch n k).st = []) : ∀ j, run ch n (k + j) = run ch n k
  | 0 => rfl
  | j + 1 => by
    show stp ch (run ch n (k + j)) = _
    rw [run_more h j]
    unfold stp
    rw [h]
theorem run_end {ch : List Nat} (hs : ch.Pairwise (· < ·)) {n : Nat} (hc : ∀ k ∈ ch, k < n) (h0 : 0 < n) (hn : n < 11) : (run ch n 20).st = [] ∧ (run ch n 20).fd = ch ∧ (run ch n 20).a ≤ 1 + 2 * ch.length * L2 n := by
  obtain ⟨i1, i2, i3, i4⟩ := inv_run hs hc h0 hn 20
  have e : (run ch n 20).st = [] := by
    rcases i4 with h | h
    · exact h
    · omega
  rw [e] at i2 i3
  refine ⟨e, by simpa [rest] using i2, ?_⟩
  have : pots ch [] = 0 := rfl
  omega
theorem run_stop {ch : List Nat} {n k : Nat} (h : (run ch n k).st = []) (hk : k ≤ 20) : run ch n k = run ch n 20 := by
  have := run_more h (20 - k)
  rw [show k + (20 - k) = 20 by omega] at this
  exact this.symm
end Zk.Bh
namespace Zk.Bh
noncomputable section
open PySem PySem.Spec PyProof.Rows L2 Zk Zk.Bc Zk.Bf Zk.Bg
theorem run_fix {ch : List Nat} (hs : ch.Pairwise (· < ·)) {n : Nat} (hc : ∀ k ∈ ch, k < n) (h0 : 0 < n) (hn : n < 11) {k : Nat} (h : (run ch n k).st = []) : run ch n k = run ch n 20 := by
  rcases Nat.lt_or_ge k 20 with c | c
  · exact run_stop h (by omega)
  · have := run_more (run_end hs hc h0 hn).1 (k - 20)
    rw [show 20 + (k - 20) = k by omega] at this
    exact this
def ks (lo hi : Nat) : List Nat := List.range' lo (hi - lo)
def pg (s : Seg) : D := .tup [tN (ks s.lo s.hi), .bl (!s.op)]
def lg (s : Seg) : D := .tup [iN s.lo, iN s.hi, iN (b2n s.op)]
theorem any_ks (ch : List Nat) (lo hi : Nat) : (ks lo hi).any (fun k => decide (k ∈ ch)) = nz ch lo hi := by
  unfold nz ks
  rw [Bool.eq_iff_iff, List.any_eq_true, List.any_eq_true]
  constructor
  · rintro ⟨x, h1, h2⟩
    obtain ⟨h3, h4⟩ := List.mem_range'_1.mp h1
    exact ⟨x, of_decide_eq_true h2, by simp [inS]; omega⟩
  · rintro ⟨x, h1, h2⟩
    simp [inS] at h2
    exact ⟨x, List.mem_range'_1.mpr (by omega), by simpa using h1⟩
theorem sl_to {xs a b : List Nat} {h : Nat} (e : xs = a ++ b) (hl : a.length = h) : gSl [tN xs, .non, .int (h : Int)] = some (tN a, 0) := by
  have := cut_upto (xs := xs.map iN) (i := (h : Int)) (by omega)
  rw [Int.toNat_natCast, ← List.map_take, e, List.take_left' hl] at this
  rw [e]
  unfold tN
  rw [gSl_tup]
  simp only [Zk.part, Option.bind_some, Option.map_some]
  exact congrArg (fun z => some (D.tup z, 0)) this
theorem sl_from {xs a b : List Nat} {h : Nat} (e : xs = a ++ b) (hl : a.length = h) : gSl [tN xs, .int (h : Int), .non] = some (tN b, 0) := by
  have := cut_on (xs := xs.map iN) (i := (h : Int)) (by omega)
  rw [Int.toNat_natCast, ← List.map_drop, e, List.drop_left' hl] at this
  rw [e]
  unfold tN
  rw [gSl_tup]
  simp only [Zk.part, Option.bind_some, Option.map_some]
  exact congrArg (fun z => some (D.tup z, 0)) this
theorem ks_cut {lo m hi : Nat} (h1 : lo ≤ m) (h2 : m ≤ hi) : ks lo hi = ks lo m ++ ks m hi := by
  unfold ks
  have := List.range'_append_1 (s := lo) (m := m - lo) (n := hi - m)
  rw [show lo + (m - lo) = m by omega, show m - lo + (hi - m) = hi - lo by omega] at this
  exact this.symm
theorem seg_len {ch : List Nat} : ∀ {st : List Seg}, (∀ s ∈ st, okS ch s) → st.length ≤ meas st
  | [], _ => by simp
  | s :: r, h => by
    have ih := seg_len fun t ht => h t (List.mem_cons_of_mem _ ht)
    have hs := (h s List.mem_cons_self).1
    have e : meas (s :: r) = (2 * (s.hi - s.lo) - 1) + meas r := by unfold meas; rw [List.map_cons, List.sum_cons]
    rw [e, List.length_cons]
    omega
theorem halves_W {ch : List Nat} (cl : ch.length ≤ 10000) (hs : ch.Pairwise (· < ·)) {n : Nat} (hc : ∀ k ∈ ch, k < n) (h0 : 0 < n) (hn : n < 11) : ∃ l, S_found_by_halves [.int (n : Int), tN ch] = some (.tup [tN (run ch n 20).fd, iN (run ch n 20).a], l, .non) := by
  have go : W (S_found_by_halves [.int (n : Int), tN ch]) fun r => ∃ l, r = (.tup [tN (run ch n 20).fd, iN (run ch n 20).a], l, .non) := by
    refine W_O fun Q' hQ => ?_
    unfold S_found_by_halves S_found_by_halvesb
    rw [W_mDef]
    have gt : gTrg [.int (n : Int)] = some (tN (List.range n), 0) := by
      have ok : RgOk 0 (n : Int) := ⟨by decide, by decide, by omega, by omega, by omega⟩
      unfold gTrg
      simp only
      rw [if_pos ok, Int.toNat_natCast, rng0]
      rfl
    have irn := imm_tN (List.range n)
    have ich := imm_tN ch
    (refine Zk.W_seqE (E1 := ?wE230) ?wa230 ?wb230; (case wa230 => (simp (disch := first | assumption | (simp; done) | omega) [ent0_def, gt, irn, uni]; exact rfl)))
    have e0 : [D.tup [tN (List.range n), .bl false]] = ((run ch n 0).st.map pg).reverse := by
      show _ = [pg ⟨0, n, true⟩]
      unfold pg ks
      rw [List.range_eq_range']
      rfl
    rw [e0]
    (refine Zk.W_seqE (E1 := ?wE231) ?wa231 ?wb231; (case wa231 => (simp (disch := first | assumption | (simp; done) | omega) []; exact rfl)))
    have e1 : D.lst [] = .lst ((run ch n 0).fd.map iN) := rfl
    rw [e1]
    (refine Zk.W_seqE (E1 := ?wE232) ?wa232 ?wb232; (case wa232 => (simp (disch := first | assumption | (simp; done) | omega) []; exact rfl)))
    refine W_seqO (J := fun E => ∃ u5 u6 u7 u8 l2 l4, E = [some (.int (n : Int), 0), some (tN ch, 0), some (.lst [], l2), some (.lst ((run ch n 20).fd.map iN), 9), some (iN (run ch n 20).a, l4), u5, u6, u7, u8]) ?_ ?_
    · intro J' hJ
      refine W_whO (I := fun m E => ∃ k u5 u6 u8 l4, k + m = 20 ∧ E = [some (.int (n : Int), 0), some (tN ch, 0), some (.lst ((run ch n k).st.map pg).reverse, 9), some (.lst ((run ch n k).fd.map iN), 9), some (iN (run ch n k).a, l4), u5, u6, none, u8]) (k := 20) ⟨0, none, none, none, 9, rfl, rfl⟩ fun m E I' hE hI => ?_
      obtain ⟨k, u5, u6, u8, l4, hk, rfl⟩ := hE
      cases hst : (run ch n k).st with
      | nil =>
        have fx := run_fix hs hc h0 hn hst
        have tl : tru (.lst []) = some false := rfl
        simp (disch := first | assumption | (simp; done) | omega) [tl]
        rw [fx]
        exact hJ _ ⟨_, _, _, _, _, _, rfl⟩
      | cons s r =>
        have ml : m ≠ 0 := by
          intro z
          have : k = 20 := by omega
          rw [this] at hst
          rw [(run_end hs hc h0 hn).1] at hst
          cases hst
        obtain ⟨i1, j2, _, j4⟩ := inv_run hs hc h0 hn k
        rw [hst] at i1 j4
        have sgl := seg_len i1
        have rlen : r.length ≤ 19 := by
          rw [List.length_cons] at sgl
          rcases j4 with h | h
          · cases h
          · omega
        have fdl : (run ch n k).fd.length ≤ 10000 := by
          have := congrArg List.length j2
          rw [List.length_append] at this
          omega
        obtain ⟨o1, o2, o3⟩ := i1 s List.mem_cons_self
        have nx : run ch n (k + 1) = stp ch (run ch n k) := rfl
        unfold stp at nx
        rw [hst] at nx
        dsimp only at nx
        obtain ⟨lo, hi, op⟩ := s
        dsimp only at nx o1 o2 o3
        generalize (run ch n k).fd = fd at *
        generalize (run ch n k).a = a at *
        have sp : pg ⟨lo, hi, op⟩ = .tup [tN (ks lo hi), .bl (!op)] := rfl
        obtain ⟨R, hR⟩ : ∃ R, R = (r.map pg).reverse := ⟨_, rfl⟩
        have lc : ((⟨lo, hi, op⟩ :: r).map pg).reverse = R ++ [.tup [tN (ks lo hi), .bl (!op)]] := by rw [List.map_cons, List.reverse_cons, ← hR, sp]
        rw [lc]
        have tl : tru (.lst (R ++ [.tup [tN (ks lo hi), .bl (!op)]])) = some true := by simp [tru]
        have cond : W (mTr (mVar 2) [some (.int (n : Int), 0), some (tN ch, 0), some (.lst (R ++ [.tup [tN (ks lo hi), .bl (!op)]]), 9), some (.lst (fd.map iN), 9), some (iN a, l4), u5, u6, none, u8]) fun p => p = (true, [some (.int (n : Int), 0), some (tN ch, 0), some (.lst (R ++ [.tup [tN (ks lo hi), .bl (!op)]]), 9), some (.lst (fd.map iN), 9), some (iN a, l4), u5, u6, none, u8]) := by
          simp (disch := first | assumption | (simp; done) | omega) [tl, -List.append_eq_nil_iff]
        refine cond.mono ?_
        rintro _ rfl
        refine IfB_t.mpr ?_
        have ik := imm_tN (ks lo hi)
        (refine Zk.W_seqE (E1 := ?wE233) ?wa233 ?wb233; (case wa233 => (simp (disch := first | assumption | (simp; done) | omega) [ik]; exact rfl)))
        have kl : (ks lo hi).length = hi - lo := by unfold ks; rw [List.length_range']
        have gl : gLen [tN (ks lo hi)] = some (.int ((hi - lo : Nat) : Int), 9) := by unfold tN; rw [gLen_tup, List.length_map, kl]
        have gi : ∀ k : Nat, gInA false [.int (k : Int), tN ch] = some (.bl (decide (k ∈ ch)), 9) := fun k => by
          have := gInA_tN false k ch (by omega)
          simpa using this
        have ak := any_ks ch
        have hb : ∀ lo hi, (((ks lo hi).map fun k => decide (k ∈ ch)).any id) = nz ch lo hi := fun lo hi => by rw [List.any_map]; exact any_ks ch lo hi
        have ek : ∀ lo hi, tN (ks lo hi) = .tup ((ks lo hi).map iN) := fun _ _ => rfl
        have io : ∀ (st : List Seg) (a' : Nat) (fd' : List Nat) (u5 u6 u8 : Option (D × Nat)) (l : Nat), run ch n (k + 1) = ⟨st, a', fd'⟩ → I' [some (.int (n : Int), 0), some (tN ch, 0), some (.lst (st.map pg).reverse, 9), some (.lst (fd'.map iN), 9), some (iN a', l), u5, u6, none, u8] := fun st a' fd' u5 u6 u8 l e => hI (m - 1) _ (by omega) ⟨k + 1, u5, u6, u8, l, by omega, by rw [e]⟩
        by_cases c1 : (op && !nz ch lo hi) = true
        · rw [if_pos c1] at nx
          simp only [Bool.and_eq_true, Bool.not_eq_true'] at c1
          obtain ⟨rfl, c1⟩ := c1
          have hb := hb lo hi
          rw [c1] at hb
          simp (disch := first | assumption | (simp; done) | omega) [ek, W_lc0, -List.map_map]
          refine W_lcB (xs := ks lo hi) (ι := fun c : Nat => D.int (c : Int)) (fun k => decide (k ∈ ch)) (by rw [sizeL]; omega) (fun k _ => ?_) fun acc ha hu => ?_
          · simp (disch := first | assumption | (simp; done) | omega) [gi]
          · simp (disch := first | assumption | (simp; done) | omega) [ha, hu, hb, -List.map_map]
            have := io _ _ _ (some (.tup ((ks lo hi).map iN), 0)) (some (.bl false, 0)) u8 9 nx
            rw [← hR] at this
            exact this
        · rw [if_neg c1] at nx
          have hz : nz ch lo hi = true := by
            cases op with
            | false => exact o3 rfl
            | true => simpa using c1
          refine W_seqO (J := fun E => ∃ l4, E = [some (.int (n : Int), 0), some (tN ch, 0), some (.lst R, 9), some (.lst (fd.map iN), 9), some (iN (a + b2n op), l4), some (tN (ks lo hi), 0), some (.bl (!op), 0), none, u8]) ?_ ?_
          · intro J2 hJ2
            cases op with
            | false =>
              simp (disch := first | assumption | (simp; done) | omega) []
              exact hJ2 _ ⟨_, rfl⟩
            | true =>
              have hb := hb lo hi
              rw [hz] at hb
              rw [ek] at hJ2 ⊢
              simp (disch := first | assumption | (simp; done) | omega) [W_lc0, -List.map_map]
              refine W_lcB (xs := ks lo hi) (ι := fun c : Nat => D.int (c : Int)) (fun k => decide (k ∈ ch)) (by rw [sizeL]; omega) (fun k _ => ?_) fun acc ha hu => ?_
              · simp (disch := first | assumption | (simp; done) | omega) [gi]
              · simp (disch := first | assumption | (simp; done) | omega) [ha, hu, hb, -List.map_map]
                exact hJ2 _ ⟨_, rfl⟩
          rintro _ ⟨l4, rfl⟩
          by_cases c2 : hi - lo ≤ 1
          · rw [if_pos c2] at nx
            have e1 : hi - lo = 1 := by omega
            have k0 : gIxd [tN (ks lo hi), .int 0] = some (iN lo, 0) := ix_t (i := 0) (by unfold ks; rw [e1]; rfl)
            have fl : fd.length < sizeLine := by rw [sizeL]; omega
            have mt : (fd.map iN) ++ [iN lo] = (fd ++ [lo]).map iN := by simp
            simp (disch := first | assumption | (simp; done) | omega) [gl, e1, k0, fl, mt, -List.map_append]
            have := io _ _ _ (some (tN (ks lo hi), 0)) (some (.bl (!op), 0)) u8 l4 nx
            rw [← hR] at this
            exact this
          · rw [if_neg c2] at nx
            have e1 : ¬ hi - lo = 1 := by omega
            have e1' : ¬ ((hi - lo : Nat) : Int) = 1 := by omega
            obtain ⟨md, hmd⟩ : ∃ md, md = mid ⟨lo, hi, op⟩ := ⟨_, rfl⟩
            rw [← hmd] at nx
            have hm2 : md = lo + (hi - lo + 1) / 2 := hmd
            obtain ⟨hf, hhf⟩ : ∃ hf, hf = (hi - lo + 1) / 2 := ⟨_, rfl⟩
            have eh : (((hi - lo : Nat) : Int) + 1) / 2 = (hf : Int) := by omega
            have s1 : gSl [tN (ks lo hi), .non, .int (hf : Int)] = some (tN (ks lo md), 0) := sl_to (ks_cut (by omega) (by omega)) (by unfold ks; rw [List.length_range']; omega)
            have s2 : gSl [tN (ks lo hi), .int (hf : Int), .non] = some (tN (ks md hi), 0) := sl_from (ks_cut (by omega) (by omega)) (by unfold ks; rw [List.length_range']; omega)
            have rl : R.length + 2 ≤ sizeLine := by rw [hR, List.length_reverse, List.length_map, sizeL]; omega
            have i1 := imm_tN (ks lo md)
            have i2 := imm_tN (ks md hi)
            have hb := hb lo md
            have en : iN (a + b2n op + 1) = .int ((a : Int) + (b2n op : Int) + 1) := by
              show D.int _ = D.int _
              congr 1
            have kl2 : (ks lo md).length ≤ 10 := by unfold ks; rw [List.length_range']; omega
            (refine Zk.W_seqE (E1 := ?wE234) ?wa234 ?wb234; (case wa234 => (simp (disch := first | assumption | (simp; done) | omega) [gl, e1, e1']; exact rfl)))
            (refine Zk.W_seqE (E1 := ?wE235) ?wa235 ?wb235; (case wa235 => (simp (disch := first | assumption | (simp; done) | omega) [gl, eh]; exact rfl)))
            (refine Zk.W_seqE (E1 := ?wE236) ?wa236 ?wb236; (case wa236 => (simp (disch := first | assumption | (simp; done) | omega) []; exact rfl)))
            have ek1 : tN (ks lo md) = .tup ((ks lo md).map iN) := rfl
            cases c3 : nz ch lo md with
            | true =>
              rw [if_pos c3] at nx
              rw [c3] at hb
              simp (disch := first | assumption | (simp; done) | omega) [s1, i1, W_lc0, -List.map_map]
              refine W_lcB (xs := ks lo md) (ι := fun c : Nat => D.int (c : Int)) (fun k => decide (k ∈ ch)) (by rw [sizeL]; omega) (fun k _ => ?_) fun acc ha hu => ?_
              · simp (disch := first | assumption | (simp; done) | omega) [gi]
              · have rl1 : R.length < sizeLine := by omega
                have rl2 : R.length + 1 < sizeLine := by omega
                simp (disch := first | assumption | (simp; done) | omega) [ha, hu, hb, s1, s2, i1, i2, rl1, rl2, -List.map_map]
                have := io _ _ _ (some (tN (ks lo hi), 0)) (some (.bl (!op), 0)) (some (.int (hf : Int), 9)) 9 nx
                rw [List.map_cons, List.map_cons, List.reverse_cons, List.reverse_cons, ← hR, en] at this
                simpa [pg] using this
            | false =>
              rw [if_neg (by rw [c3]; decide)] at nx
              rw [c3] at hb
              simp (disch := first | assumption | (simp; done) | omega) [s1, i1, W_lc0, -List.map_map]
              refine W_lcB (xs := ks lo md) (ι := fun c : Nat => D.int (c : Int)) (fun k => decide (k ∈ ch)) (by rw [sizeL]; omega) (fun k _ => ?_) fun acc ha hu => ?_
              · simp (disch := first | assumption | (simp; done) | omega) [gi]
              · have rl1 : R.length < sizeLine := by omega
                simp (disch := first | assumption | (simp; done) | omega) [ha, hu, hb, s2, i2, rl1, -List.map_map]
                have := io _ _ _ (some (tN (ks lo hi), 0)) (some (.bl (!op), 0)) (some (.int (hf : Int), 9)) 9 nx
                rw [List.map_cons, List.reverse_cons, ← hR, en] at this
                simpa [pg] using this
    rintro _ ⟨u5, u6, u7, u8, l2, l4, rfl⟩
    simp (disch := first | assumption | (simp; done) | omega) []
    exact hQ _ ⟨_, rfl⟩
  obtain ⟨r, e, l, rfl⟩ := go
  exact ⟨l, e⟩
end
end Zk.Bh
namespace Zk.Bh
noncomputable section
open PySem PySem.Spec PyProof.Rows L2 Zk Zk.Bc Zk.Bf Zk.Bg
theorem law_halves_W {ch : List Nat} (cl : ch.length ≤ 10000) (hs : ch.Pairwise (· < ·)) {n : Nat} (hc : ∀ k ∈ ch, k < n) (h0 : 0 < n) (hn : n < 11) : ∃ l, S_law_halves [.int (n : Int), tN ch] = some (iN (run ch n 20).a, l, .non) := by
  have go : W (S_law_halves [.int (n : Int), tN ch]) fun r => ∃ l, r = (iN (run ch n 20).a, l, .non) := by
    refine W_O fun Q' hQ => ?_
    unfold S_law_halves S_law_halvesb
    rw [W_mDef]
    have ich := imm_tN ch
    have r80 : rgOk 80 := ⟨by decide, by decide⟩
    (refine Zk.W_seqE (E1 := ?wE237) ?wa237 ?wb237; (case wa237 => (simp (disch := first | assumption | (simp; done) | omega) [ent0_def]; exact rfl)))
    (refine Zk.W_seqE (E1 := ?wE238) ?wa238 ?wb238; (case wa238 => (simp (disch := first | assumption | (simp; done) | omega) [uni]; exact rfl)))
    have e0 : [D.tup [.int 0, .int (n : Int), .int 1]] = ((run ch n 0).st.map lg).reverse := rfl
    have e1 : D.int 0 = iN (run ch n 0).a := rfl
    rw [e0]
    have e2 : ([some (.int (n : Int), 0), some (tN ch, 0), some (D.int 0, 9), some (.lst ((run ch n 0).st.map lg).reverse, 9), none, none, none, none, none, none] : Ev) = [some (.int (n : Int), 0), some (tN ch, 0), some (iN (run ch n 0).a, 9), some (.lst ((run ch n 0).st.map lg).reverse, 9), none, none, none, none, none, none] := rfl
    rw [e2]
    (refine Zk.W_forNx ?wE333 80 [4, 5, 6, 7, 9] (fun (l : Nat) k => [(2, some (iN (run ch n k).a, l)), (3, some (.lst ((run ch n k).st.map lg).reverse, 9))]) (fun _ _ => True) 9 ?wa333 ?wb333 ?_ ?_ ?_; (case wa333 => (simp (disch := first | assumption | (simp; done) | omega) [r80, -List.map_map]; exact rfl)); (case wb333 => (simp (disch := first | assumption | (simp; done) | omega) [Zk.sets, r80, -List.map_map])))
    · trivial
    · intro X hX1 hX2 l k I' hk _ hI
      simp only [Zk.AllU, Zk.sets, List.set_cons_succ, List.set_cons_zero, List.set_nil] at *
      intro u4 u5 u6 u7 u9
      refine W_tgV.mpr ⟨by simp, ?_⟩
      cases hst : (run ch n k).st with
      | nil =>
        have fx := run_fix hs hc h0 hn hst
        have gl0 : gLen [.lst []] = some (.int 0, 9) := rfl
        simp (disch := first | assumption | (simp; done) | omega) [gl0]
        refine hX1 _ ?_
        rw [fx]
        simp (disch := first | assumption | (simp; done) | omega) []
        exact hQ _ ⟨_, rfl⟩
      | cons s r =>
        obtain ⟨i1, j2, _, j4⟩ := inv_run hs hc h0 hn k
        rw [hst] at i1 j4
        have sgl := seg_len i1
        have rlen : r.length ≤ 19 := by
          rw [List.length_cons] at sgl
          rcases j4 with h | h
          · cases h
          · omega
        obtain ⟨o1, o2, o3⟩ := i1 s List.mem_cons_self
        have nx : run ch n (k + 1) = stp ch (run ch n k) := rfl
        unfold stp at nx
        rw [hst] at nx
        dsimp only at nx
        obtain ⟨lo, hi, op⟩ := s
        dsimp only at nx o1 o2 o3
        generalize (run ch n k).fd = fd at *
        generalize (run ch n k).a = a at *
        obtain ⟨R, hR⟩ : ∃ R, R = (r.map lg).reverse := ⟨_, rfl⟩
        have lc : ((⟨lo, hi, op⟩ :: r).map lg).reverse = R ++ [.tup [.int (lo : Int), .int (hi : Int), .int (b2n op : Int)]] := by rw [List.map_cons, List.reverse_cons, ← hR]; rfl
        rw [lc]
        have Rl : R.length ≤ 19 := by rw [hR, List.length_reverse, List.length_map]; omega
        have gl : gLen [.lst (R ++ [.tup [.int (lo : Int), .int (hi : Int), .int (b2n op : Int)]])] = some (.int ((R.length : Int) + 1), 9) := by rw [gLen_lst]; simp
        have g0 : ¬ (R.length : Int) + 1 = 0 := by omega
        (refine Zk.W_seqE (E1 := ?wE239) ?wa239 ?wb239; (case wa239 => (simp (disch := first | assumption | (simp; done) | omega) [gl, g0, -List.length_append]; exact rfl)))
        (refine Zk.W_seqE (E1 := ?wE240) ?wa240 ?wb240; (case wa240 => (simp (disch := first | assumption | (simp; done) | omega) []; exact rfl)))
        have hb : ∀ lo hi, gInA false [.bl true, .lst ((ch.map (inS lo hi)).map D.bl)] = some (.bl (nz ch lo hi), 9) := fun lo hi => by
          rw [gIn_bl _ _ _ (by rw [List.length_map, sizeL]; omega)]
          have : (ch.map (inS lo hi)).contains true = nz ch lo hi := by
            unfold nz
            rw [List.contains_eq_any_beq, List.any_map]
            congr 1
            funext k
            simp
          rw [this]; simp
        have hb2 : ∀ lo hi, gInA true [.bl true, .lst ((ch.map (inS lo hi)).map D.bl)] = some (.bl (!nz ch lo hi), 9) := fun lo hi => by
          rw [gIn_bl _ _ _ (by rw [List.length_map, sizeL]; omega)]
          have : (ch.map (inS lo hi)).contains true = nz ch lo hi := by
            unfold nz
            rw [List.contains_eq_any_beq, List.any_map]
            congr 1
            funext k
            simp
          rw [this]; simp
        have iv : ∀ (lo hi k : Nat), inS lo hi k = (decide ((lo : Int) ≤ (k : Int)) && decide ((k : Int) < (hi : Int))) := fun lo hi k => by
          unfold inS
          congr 1 <;> exact decide_eq_decide.mpr (by omega)
        have io : ∀ (st : List Seg) (a' : Nat) (fd' : List Nat) (u4 u5 u6 u7 u9 : Option (D × Nat)) (l : Nat), run ch n (k + 1) = ⟨st, a', fd'⟩ → I' [some (.int (n : Int), 0), some (tN ch, 0), some (iN a', l), some (.lst (st.map lg).reverse, 9), u4, u5, u6, u7, none, u9] := fun st a' fd' u4 u5 u6 u7 u9 l e => by
          have := hI l trivial u4 u5 u6 u7 u9
          rw [e] at this
          exact this
        have ec : tN ch = .tup (ch.map iN) := rfl
        by_cases c1 : (op && !nz ch lo hi) = true
        · rw [if_pos c1] at nx
          simp only [Bool.and_eq_true, Bool.not_eq_true'] at c1
          obtain ⟨rfl, c1⟩ := c1
          have hb := hb2 lo hi
          rw [c1] at hb
          have b1 : b2n true = 1 := rfl
          rw [ec] at io ⊢
          simp (disch := first | assumption | (simp; done) | omega) [b1, W_lc0, -List.map_map]
          refine W_lcB (xs := ch) (ι := iN) (inS lo hi) (by rw [sizeL]; omega) (fun k _ => ?_) fun acc ha hu => ?_
          · have e := iv lo hi k
            by_cases d1 : (lo : Int) ≤ (k : Int)
            · by_cases d2 : (k : Int) < (hi : Int) <;> simp only [d1, d2, decide_true, decide_false, Bool.true_and, Bool.and_true, Bool.and_false] at e <;> simp (disch := first | assumption | (simp; done) | omega) [d1, d2, e]
            · simp only [d1, decide_false, Bool.false_and] at e
              simp (disch := first | assumption | (simp; done) | omega) [d1, e]
          · simp (disch := first | assumption | (simp; done) | omega) [ha, hu, hb, -List.map_map]
            have := io _ _ _ (some (.int (k : Int), 0)) (some (iN lo, 0)) (some (iN hi, 0)) (some (.int 1, 0)) u9 9 nx
            rw [← hR] at this
            exact this
        · rw [if_neg c1] at nx
          have hz : nz ch lo hi = true := by
            cases op with
            | false => exact o3 rfl
            | true => simpa using c1
          refine W_seqO (J := fun E => ∃ l, E = [some (.int (n : Int), 0), some (tN ch, 0), some (iN (a + b2n op), l), some (.lst R, 9), some (.int (k : Int), 0), some (iN lo, 0), some (iN hi, 0), some (iN (b2n op), 0), none, u9]) ?_ ?_
          · intro J2 hJ2
            cases op with
            | false =>
              have b1 : b2n false = 0 := rfl
              rw [b1] at hJ2 ⊢
              simp (disch := first | assumption | (simp; done) | omega) []
              exact hJ2 _ ⟨_, rfl⟩
            | true =>
              have b1 : b2n true = 1 := rfl
              have hb := hb2 lo hi
              rw [hz] at hb
              rw [b1] at hJ2 ⊢
              rw [ec] at hJ2 ⊢
              simp (disch := first | assumption | (simp; done) | omega) [W_lc0, -List.map_map]
              refine W_lcB (xs := ch) (ι := iN) (inS lo hi) (by rw [sizeL]; omega) (fun k _ => ?_) fun acc ha hu => ?_
              · have e := iv lo hi k
                by_cases d1 : (lo : Int) ≤ (k : Int)
                · by_cases d2 : (k : Int) < (hi : Int) <;> simp only [d1, d2, decide_true, decide_false, Bool.true_and, Bool.and_true, Bool.and_false] at e <;> simp (disch := first | assumption | (simp; done) | omega) [d1, d2, e]
                · simp only [d1, decide_false, Bool.false_and] at e
                  simp (disch := first | assumption | (simp; done) | omega) [d1, e]
              · simp (disch := first | assumption | (simp; done) | omega) [ha, hu, hb, -List.map_map]
                exact hJ2 _ ⟨_, rfl⟩
          rintro _ ⟨l, rfl⟩
          by_cases c2 : hi - lo ≤ 1
          · rw [if_pos c2] at nx
            have e1 : ¬ (1 : Int) < (hi : Int) - (lo : Int) := by omega
            simp (disch := first | assumption | (simp; done) | omega) [e1]
            have := io _ _ _ (some (.int (k : Int), 0)) (some (iN lo, 0)) (some (iN hi, 0)) (some (iN (b2n op), 0)) u9 l nx
            rw [← hR] at this
            exact this
          · rw [if_neg c2] at nx
            have e1 : (1 : Int) < (hi : Int) - (lo : Int) := by omega
            obtain ⟨md, hmd⟩ : ∃ md, md = mid ⟨lo, hi, op⟩ := ⟨_, rfl⟩
            rw [← hmd] at nx
            have hm2 : md = lo + (hi - lo + 1) / 2 := hmd
            have eh : (lo : Int) + ((hi : Int) - (lo : Int) + 1) / 2 = (md : Int) := by omega
            have hb := hb lo md
            have en : iN (a + b2n op + 1) = .int ((a : Int) + (b2n op : Int) + 1) := by
              show D.int _ = D.int _
              congr 1
            (refine Zk.W_ifT (E1 := ?wE241) ?wa241 ?wb241; (case wa241 => (simp (disch := first | assumption | (simp; done) | omega) [e1]; exact rfl)))
            (refine Zk.W_seqE (E1 := ?wE242) ?wa242 ?wb242; (case wa242 => (simp (disch := first | assumption | (simp; done) | omega) [eh]; exact rfl)))
            (refine Zk.W_seqE (E1 := ?wE243) ?wa243 ?wb243; (case wa243 => (simp (disch := first | assumption | (simp; done) | omega) []; exact rfl)))
            cases c3 : nz ch lo md with
            | true =>
              rw [if_pos c3] at nx
              rw [c3] at hb
              rw [ec] at io ⊢
              simp (disch := first | assumption | (simp; done) | omega) [W_lc0, -List.map_map]
              refine W_lcB (xs := ch) (ι := iN) (inS lo md) (by rw [sizeL]; omega) (fun k _ => ?_) fun acc ha hu => ?_
              · have e := iv lo md k
                by_cases d1 : (lo : Int) ≤ (k : Int)
                · by_cases d2 : (k : Int) < (md : Int) <;> simp only [d1, d2, decide_true, decide_false, Bool.true_and, Bool.and_true, Bool.and_false] at e <;> simp (disch := first | assumption | (simp; done) | omega) [d1, d2, e]
                · simp only [d1, decide_false, Bool.false_and] at e
                  simp (disch := first | assumption | (simp; done) | omega) [d1, e]
              · have rl1 : R.length < sizeLine := by rw [sizeL]; omega
                have rl2 : R.length + 1 < sizeLine := by rw [sizeL]; omega
                simp (disch := first | assumption | (simp; done) | omega) [ha, hu, hb, rl1, rl2, -List.map_map]
                have := io _ _ _ (some (.int (k : Int), 0)) (some (iN lo, 0)) (some (iN hi, 0)) (some (iN (b2n op), 0)) (some (.int (md : Int), 9)) 9 nx
                rw [List.map_cons, List.map_cons, List.reverse_cons, List.reverse_cons, ← hR, en] at this
                first | exact this | (rw [List.append_assoc] at this; exact this)
            | false =>
              rw [if_neg (by rw [c3]; decide)] at nx
              rw [c3] at hb
              rw [ec] at io ⊢
              simp (disch := first | assumption | (simp; done) | omega) [W_lc0, -List.map_map]
              refine W_lcB (xs := ch) (ι := iN) (inS lo md) (by rw [sizeL]; omega) (fun k _ => ?_) fun acc ha hu => ?_
              · have e := iv lo md k
                by_cases d1 : (lo : Int) ≤ (k : Int)
                · by_cases d2 : (k : Int) < (md : Int) <;> simp only [d1, d2, decide_true, decide_false, Bool.true_and, Bool.and_true, Bool.and_false] at e <;> simp (disch := first | assumption | (simp; done) | omega) [d1, d2, e]
                · simp only [d1, decide_false, Bool.false_and] at e
                  simp (disch := first | assumption | (simp; done) | omega) [d1, e]
              · have rl1 : R.length < sizeLine := by rw [sizeL]; omega
                simp (disch := first | assumption | (simp; done) | omega) [ha, hu, hb, rl1, -List.map_map]
                have := io _ _ _ (some (.int (k : Int), 0)) (some (iN lo, 0)) (some (iN hi, 0)) (some (iN (b2n op), 0)) (some (.int (md : Int), 9)) 9 nx
                rw [List.map_cons, List.reverse_cons, ← hR, en] at this
                first | exact this | (rw [List.append_assoc] at this; exact this)
    intro l _
    simp only [Zk.AllU, Zk.sets, List.set_cons_succ, List.set_cons_zero, List.set_nil] at *
    intro u4 u5 u6 u7 u9
    have : run ch n 80 = run ch n 20 := run_more (run_end hs hc h0 hn).1 60
    rw [this]
    simp (disch := first | assumption | (simp; done) | omega) []
    exact hQ _ ⟨_, rfl⟩
  obtain ⟨r, e, l, rfl⟩ := go
  exact ⟨l, e⟩
def ei (x : Nat) : El := .i (x : Int)
theorem tN_tE (as : List Nat) : tN as = tE (as.map ei) := by unfold tN tE; rw [List.map_map]; rfl
theorem put_tN {as : List Nat} {k x : Nat} (h : as.length ≤ 1000) : S_law_put [tN as, .int (k : Int), .int (x : Int)] = some (tN (as.take k ++ [x] ++ as.drop (k + 1)), 0, .non) := by
  have := put_eq (as.map ei) k (ei x) (by rw [List.length_map]; exact h)
  rw [tN_tE, tN_tE]
  have e : putE (as.map ei) k (ei x) = (as.take k ++ [x] ++ as.drop (k + 1)).map ei := by
    unfold putE
    simp
  rw [e] at this
  exact this
theorem faulty_W (s : List Int) {as : List Nat} {e : Nat} (hl : as.length ≤ 100) (h1 : ∀ x ∈ as, x ≤ 1) (he : e ≤ 10) : W (S_law_faulty [dr s, tN as, .int (e : Int)]) fun r => ∃ (bs : List Nat) (l : Nat) (s' : List Int), r = (tN bs, l, dr s') ∧ bs.length = as.length := by
  refine W_O fun Q' hQ => ?_
  unfold S_law_faulty S_law_faultyb
  rw [W_mDef]
  have re : rgOk (e : Int) := ⟨by omega, by omega⟩
  have ia := imm_tN as
  (refine Zk.W_seqE (E1 := ?wE244) ?wa244 ?wb244; (case wa244 => (simp (disch := first | assumption | (simp; done) | omega) [ent0_def, ia]; exact rfl)))
  (refine Zk.W_forN ?wE334 e [4, 5] (fun (c : List Int × List Nat × Nat) _ => [(0, some (dr c.1, 1)), (3, some (tN c.2.1, c.2.2))]) (fun c _ => c.2.1.length = as.length ∧ ∀ x ∈ c.2.1, x ≤ 1) ((s, as, 9) : List Int × List Nat × Nat) ?wa334 ?wb334 ?_ ?_ ?_; (case wa334 => (simp (disch := first | assumption | (simp; done) | omega) [re]; exact rfl)); (case wb334 => (simp (disch := first | assumption | (simp; done) | omega) [Zk.sets, re])))
  · exact ⟨rfl, h1⟩
  · rintro ⟨s, bs, l⟩ j I' hj ⟨p1, p2⟩ hI
    simp only [Zk.AllU, Zk.sets, List.set_cons_succ, List.set_cons_zero, List.set_nil] at *
    intro u4 u5
    refine W_tgV.mpr ⟨by simp, ?_⟩
    have p1 : bs.length = as.length := p1
    have p2 : ∀ x ∈ bs, x ≤ 1 := p2
    have ib := imm_tN bs
    have gl : gLen [tN bs] = some (.int (bs.length : Int), 9) := by unfold tN; rw [gLen_tup, List.length_map]
    refine W_end ?_
    by_cases c : 0 < bs.length
    · have c2 : (0 : Int) < (bs.length : Int) := by omega
      obtain ⟨w, hw, t1⟩ := tk s bs.length c
      obtain ⟨x, hx⟩ : ∃ x, bs[w]? = some x := ⟨_, List.getElem?_eq_getElem hw⟩
      have g1 : gIxd [tN bs, .int (w : Int)] = some (iN x, 0) := ix_t hx
      have x1 := p2 x (List.mem_of_getElem? hx)
      have e1 : (1 : Int) - (x : Int) = ((1 - x : Nat) : Int) := by omega
      have pu := put_tN (as := bs) (k := w) (x := 1 - x) (by omega)
      have i2 := imm_tN (bs.take w ++ [1 - x] ++ bs.drop (w + 1))
      generalize hz : 1 - x = z at *
      simp (disch := first | assumption | (simp; done) | omega) [gl, c, c2, t1, g1, e1, pu, ib, i2, dem1, -List.append_assoc]
      refine hI (_, bs.take w ++ [z] ++ bs.drop (w + 1), _) ⟨?_, fun y hy => ?_⟩ _ _
      · show (bs.take w ++ [z] ++ bs.drop (w + 1)).length = as.length
        simp; omega
      · have hy : y ∈ bs.take w ++ [z] ++ bs.drop (w + 1) := hy
        rcases List.mem_append.mp hy with hy | hy
        · rcases List.mem_append.mp hy with hy | hy
          · exact p2 y (List.mem_of_mem_take hy)
          · rw [List.mem_singleton.mp hy]; omega
        · exact p2 y (List.mem_of_mem_drop hy)
    · have c2 : ¬ (0 : Int) < (bs.length : Int) := by omega
      simp (disch := first | assumption | (simp; done) | omega) [gl, c, c2, ib]
      exact hI (s, bs, l) ⟨p1, p2⟩ _ _
  rintro ⟨s, bs, l⟩ ⟨p1, p2⟩
  simp only [Zk.AllU, Zk.sets, List.set_cons_succ, List.set_cons_zero, List.set_nil] at *
  intro u4 u5
  have ib := imm_tN bs
  simp (disch := first | assumption | (simp; done) | omega) [ib]
  exact hQ _ ⟨bs, _, s, rfl, p1⟩
end
end Zk.Bh
namespace K53
noncomputable section
open PySem PySem.Spec PyProof.Rows L2 Zk
def topS (i : Nat) : Stmt := PySem.Challenge.pw_sketchkeep_k53_pools_with_faults_and_hal.main.body.getD i (.Pass ⟨0, 0, 0, 0⟩)
abbrev s_small_sets : Stmt := topS 2
theorem sc_small_sets : FnScope ["n", "s", "sets", "size", "chosen"] ["n", "s"] (defScope s_small_sets) := ⟨rfl, rfl, rfl, by decide +kernel, rfl, by decide +kernel, by decide +kernel⟩
abbrev m_small_sets := S_small_sets
theorem ok_small_sets {P : Program} {w : World} {K : PySem.W.Frag} {mg : Str → Option Value} {base : Heap} {f : Addr} {fd : FuncData} (z_range : mg "range" = none) (z_min : mg "min" = none) (z_combinations : mg "combinations" = some (.type "itertools.combinations")) (F : Fun K "small_sets" "small_sets" s_small_sets f fd) : FnOk P w K mg base CX0 1 f fd ["n", "s"] (spM K none 2 m_small_sets) :=
  F.zk (wr := ([2] ++ (([3] ++ ([4] ++ [])) ++ []))) sc_small_sets none (by decide) (fun i h => by cases h) fun cdv A outer s H E hr =>
    (ass_cons (as_set 2 (ae_lst aa_nil) sc_small_sets.nd) (ass_cons (as_for PassesOwn.never (ai_rg1 (ae_add (ae_blt call_minA al_min (by rfl) z_min boot_min (aa_cons (ae_var 0) (aa_cons (ae_var 1) aa_nil))) ae_int) (by rfl) z_range) (ag_n 3 sc_small_sets.nd) (ass_one (as_for PassesOwn.never (ai_cmbR (aa_cons (ae_var 0) aa_nil) (ae_var 3) (by rfl) z_combinations (by rfl) z_range) (ag_n 4 sc_small_sets.nd) (ass_one (as_ex (ae_app 2 (ae_var 4))))))) (ass_one (as_ret (ae_var 2)))))
abbrev s_pool_answers : Stmt := topS 3
abbrev n_pool_answers : List Str := ["pools", "marked_keys", "key", "pool"]
theorem sc_pool_answers : FnScope ["pools", "marked_keys", "key", "pool"] ["pools", "marked_keys"] (defScope s_pool_answers) := ⟨rfl, rfl, rfl, by decide +kernel, rfl, by decide +kernel, by decide +kernel⟩
abbrev m_pool_answers := S_pool_answers
theorem ok_pool_answers {P : Program} {w : World} {K : PySem.W.Frag} {mg : Str → Option Value} {base : Heap} {f : Addr} {fd : FuncData} (z_any : mg "any" = none) (z_tuple : mg "tuple" = none) (F : Fun K "pool_answers" "pool_answers" s_pool_answers f fd) : FnOk P w K mg base CX0 1 f fd ["pools", "marked_keys"] (spM K none 2 m_pool_answers) :=
  F.zk (wr := []) sc_pool_answers none (by decide) (fun i h => by cases h) fun cdv A outer s H E hr =>
    (ass_one (as_ret (ae_bty call_tuple_of al_tuple (by rfl) z_tuple boot_tuple (aa_cons (ae_lc [("pool", 3)] sc_pool_answers.nd (blkOk_by (N := n_pool_answers) (sc := defScope s_pool_answers) (by decide +kernel)) (ai_seq (ae_var 0)) (fun _ _ _ _ _ => (ag_n 3 sc_pool_answers.nd)) (fun _ _ _ _ _ => ats_nil) (fun _ _ _ _ _ => (ae_if (at_tru (ae_blt call_anyA al_any (by rfl) z_any boot_any (aa_cons (ae_lc [("key", 2)] sc_pool_answers.nd (blkOk_by (by rfl)) (ai_seq (ae_var 1)) (fun _ _ _ _ _ => (ag_n 2 sc_pool_answers.nd)) (fun _ _ _ _ _ => ats_nil) (fun _ _ _ _ _ => (ae_cmp (ac_in hr.u65 (ae_var 2) (ae_var 3)))) gl_v) aa_nil))) ae_int ae_int)) gl_v) aa_nil))))
abbrev s_twin_sets : Stmt := topS 4
theorem sc_twin_sets : FnScope ["pools", "n", "s", "first_by_answers", "best", "index", "chosen", "answers", "first", "one"] ["pools", "n", "s"] (defScope s_twin_sets) := ⟨rfl, rfl, rfl, by decide +kernel, rfl, by decide +kernel, by decide +kernel⟩
abbrev m_twin_sets := S_twin_sets
theorem ok_twin_sets {P : Program} {w : World} {K : PySem.W.Frag} {mg : Str → Option Value} {base : Heap} {f : Addr} {fd : FuncData} (z_enumerate : mg "enumerate" = none) (o_small_sets : Ok P w K mg base 1 "small_sets" ["n", "s"] none 2 S_small_sets) (o_pool_answers : Ok P w K mg base 1 "pool_answers" ["pools", "marked_keys"] none 2 S_pool_answers) (F : Fun K "twin_sets" "twin_sets" s_twin_sets f fd) : FnOk P w K mg base CX0 2 f fd ["pools", "n", "s"] (spM K none 3 m_twin_sets) :=
  F.zk (wr := ([3] ++ ([4] ++ ((([5] ++ ([6] ++ [])) ++ ([7] ++ ((([] ++ []) ++ []) ++ (([8] ++ ([9] ++ [])) ++ ([4] ++ []))))) ++ [])))) sc_twin_sets none (by decide) (fun i h => by cases h) fun cdv A outer s H E hr =>
    (ass_cons (as_set 3 ae_dicT sc_twin_sets.nd) (ass_cons (as_set 4 ae_non sc_twin_sets.nd) (ass_cons (as_for PassesOwn.never (ai_enu (ae_fn o_small_sets hr (by rfl) (aa_cons (ae_var 1) (aa_cons (ae_var 2) aa_nil)) (npc (npc np0))) (by rfl) z_enumerate) (ag_t (ags_cons (ag_n 5 sc_twin_sets.nd) (ags_cons (ag_n 6 sc_twin_sets.nd) ags_nil))) (ass_cons (as_set 7 (ae_fn o_pool_answers hr (by rfl) (aa_cons (ae_var 0) (aa_cons (ae_var 6) aa_nil)) (npc (npc np0))) sc_twin_sets.nd) (ass_cons (as_if (at_cmp (ac_notIn hr.u65 (ae_var 7) (ae_var 3))) (ass_cons (as_put 3 hr.u1 (ae_var 7) (ae_tup (aa_cons (ae_var 5) (aa_cons (ae_var 6) aa_nil)))) (ass_one as_ct)) ass_nil) (ass_cons (as_asg (ae_ixd hr.u1 (ae_var 3) (ae_var 7)) (ag_t (ags_cons (ag_n 8 sc_twin_sets.nd) (ags_cons (ag_n 9 sc_twin_sets.nd) ags_nil)))) (ass_one (as_if (at_w (aw_or (at_cmp (ac_isN (ae_var 4))) (aw_or1 (at_cmp (ac_lt (ae_var 8) (ae_ixd hr.u1 (ae_var 4) ae_int)))))) (ass_one (as_set 4 (ae_tup (aa_cons (ae_var 8) (aa_cons (ae_tup (aa_cons (ae_var 9) (aa_cons (ae_var 6) aa_nil))) aa_nil))) sc_twin_sets.nd)) ass_nil)))))) (ass_one (as_ret (ae_if (at_cmp (ac_isN (ae_var 4))) ae_non (ae_ixd hr.u1 (ae_var 4) ae_int)))))))
abbrev s_unlike_places : Stmt := topS 5
abbrev n_unlike_places : List Str := ["one", "other", "a", "b"]
theorem sc_unlike_places : FnScope ["one", "other", "a", "b"] ["one", "other"] (defScope s_unlike_places) := ⟨rfl, rfl, rfl, by decide +kernel, rfl, by decide +kernel, by decide +kernel⟩
abbrev m_unlike_places := S_unlike_places
theorem ok_unlike_places {P : Program} {w : World} {K : PySem.W.Frag} {mg : Str → Option Value} {base : Heap} {f : Addr} {fd : FuncData} (z_zip : mg "zip" = none) (z_len : mg "len" = none) (F : Fun K "unlike_places" "unlike_places" s_unlike_places f fd) : FnOk P w K mg base CX0 1 f fd ["one", "other"] (spM K none 2 m_unlike_places) :=
  F.zk (wr := []) sc_unlike_places none (by decide) (fun i h => by cases h) fun cdv A outer s H E hr =>
    (ass_one (as_ret (ae_blt call_len al_len (by rfl) z_len boot_len (aa_cons (ae_lc [("a", 2), ("b", 3)] sc_unlike_places.nd (blkOk_by (N := n_unlike_places) (sc := defScope s_unlike_places) (by decide +kernel)) (ai_zip (ae_var 0) (ae_var 1) (by rfl) z_zip) (fun _ _ _ _ _ => (ag_t (ags_cons (ag_n 2 sc_unlike_places.nd) (ags_cons (ag_n 3 sc_unlike_places.nd) ags_nil)))) (fun _ _ _ _ _ => (ats_one (at_cmp (ac_ne hr.u64 (ae_var 2) (ae_var 3))))) (fun _ _ _ _ _ => ae_int) (gl_t (gl_c gl_v (gl_c gl_v gl_n)))) aa_nil))))
abbrev s_pool_distance : Stmt := topS 6
abbrev n_pool_distance : List Str := ["pools", "n", "s", "rows", "chosen", "one", "other"]
theorem sc_pool_distance : FnScope ["pools", "n", "s", "rows", "chosen", "one", "other"] ["pools", "n", "s"] (defScope s_pool_distance) := ⟨rfl, rfl, rfl, by decide +kernel, rfl, by decide +kernel, by decide +kernel⟩
abbrev m_pool_distance := S_pool_distance
theorem ok_pool_distance {P : Program} {w : World} {K : PySem.W.Frag} {mg : Str → Option Value} {base : Heap} {f : Addr} {fd : FuncData} (z_min : mg "min" = none) (z_combinations : mg "combinations" = some (.type "itertools.combinations")) (o_small_sets : Ok P w K mg base 1 "small_sets" ["n", "s"] none 2 S_small_sets) (o_pool_answers : Ok P w K mg base 1 "pool_answers" ["pools", "marked_keys"] none 2 S_pool_answers) (o_unlike_places : Ok P w K mg base 1 "unlike_places" ["one", "other"] none 2 S_unlike_places) (F : Fun K "pool_distance" "pool_distance" s_pool_distance f fd) : FnOk P w K mg base CX0 2 f fd ["pools", "n", "s"] (spM K none 3 m_pool_distance) :=
  F.zk (wr := ([3] ++ [])) sc_pool_distance none (by decide) (fun i h => by cases h) fun cdv A outer s H E hr =>
    (ass_cons (as_setLc 3 [("chosen", 4)] sc_pool_distance.nd (blkOk_by (N := n_pool_distance) (sc := defScope s_pool_distance) (by decide +kernel)) (ai_seq (ae_fn o_small_sets hr (by rfl) (aa_cons (ae_var 1) (aa_cons (ae_var 2) aa_nil)) (npc (npc np0)))) (fun _ _ _ _ _ => (ag_n 4 sc_pool_distance.nd)) (fun _ _ _ _ _ => ats_nil) (fun _ _ _ _ _ => (ae_fn o_pool_answers hr (by rfl) (aa_cons (ae_var 0) (aa_cons (ae_var 4) aa_nil)) (npc (npc np0)))) gl_v (by decide +kernel)) (ass_one (as_ret (ae_minDN (by rfl) z_min (ae_lc [("one", 5), ("other", 6)] sc_pool_distance.nd (blkOk_by (N := n_pool_distance) (sc := defScope s_pool_distance) (by decide +kernel)) (ai_cmb (ae_var 3) ae_int (by rfl) z_combinations) (fun _ _ _ _ _ => (ag_t (ags_cons (ag_n 5 sc_pool_distance.nd) (ags_cons (ag_n 6 sc_pool_distance.nd) ags_nil)))) (fun _ _ _ _ _ => ats_nil) (fun _ _ _ _ _ => (ae_fn o_unlike_places hr (by rfl) (aa_cons (ae_var 5) (aa_cons (ae_var 6) aa_nil)) (npc (npc np0)))) (gl_t (gl_c gl_v (gl_c gl_v gl_n))))))))
abbrev s_fitting_with_faults : Stmt := topS 7
abbrev n_fitting_with_faults : List Str := ["pools", "n", "answers", "s", "e", "sets", "chosen"]
theorem sc_fitting_with_faults : FnScope ["pools", "n", "answers", "s", "e", "sets", "chosen"] ["pools", "n", "answers", "s", "e"] (defScope s_fitting_with_faults) := ⟨rfl, rfl, rfl, by decide +kernel, rfl, by decide +kernel, by decide +kernel⟩
abbrev m_fitting_with_faults := S_fitting_with_faults
theorem ok_fitting_with_faults {P : Program} {w : World} {K : PySem.W.Frag} {mg : Str → Option Value} {base : Heap} {f : Addr} {fd : FuncData} (z_tuple : mg "tuple" = none) (o_small_sets : Ok P w K mg base 1 "small_sets" ["n", "s"] none 2 S_small_sets) (o_unlike_places : Ok P w K mg base 1 "unlike_places" ["one", "other"] none 2 S_unlike_places) (o_pool_answers : Ok P w K mg base 1 "pool_answers" ["pools", "marked_keys"] none 2 S_pool_answers) (F : Fun K "fitting_with_faults" "fitting_with_faults" s_fitting_with_faults f fd) : FnOk P w K mg base CX0 2 f fd ["pools", "n", "answers", "s", "e"] (spM K none 5 m_fitting_with_faults) :=
  F.zk (wr := ([5] ++ [])) sc_fitting_with_faults none (by decide) (fun i h => by cases h) fun cdv A outer s H E hr =>
    (ass_cons (as_set 5 (ae_fn o_small_sets hr (by rfl) (aa_cons (ae_var 1) (aa_cons (ae_var 3) aa_nil)) (npc (npc np0))) sc_fitting_with_faults.nd) (ass_one (as_ret (ae_bty call_tuple_of al_tuple (by rfl) z_tuple boot_tuple (aa_cons (ae_lc [("chosen", 6)] sc_fitting_with_faults.nd (blkOk_by (N := n_fitting_with_faults) (sc := defScope s_fitting_with_faults) (by decide +kernel)) (ai_seq (ae_var 5)) (fun _ _ _ _ _ => (ag_n 6 sc_fitting_with_faults.nd)) (fun _ _ _ _ _ => (ats_one (at_cmp (ac_le (ae_fn o_unlike_places hr (by rfl) (aa_cons (ae_fn o_pool_answers hr (by rfl) (aa_cons (ae_var 0) (aa_cons (ae_var 6) aa_nil)) (npc (npc np0))) (aa_cons (ae_var 2) aa_nil)) (npc (npc np0))) (ae_var 4))))) (fun _ _ _ _ _ => (ae_var 6)) gl_v) aa_nil)))))
abbrev s_bit_pools : Stmt := topS 8
abbrev n_bit_pools : List Str := ["n", "x", "bit"]
theorem sc_bit_pools : FnScope ["n", "x", "bit"] ["n"] (defScope s_bit_pools) := ⟨rfl, rfl, rfl, by decide +kernel, rfl, by decide +kernel, by decide +kernel⟩
abbrev m_bit_pools := S_bit_pools
theorem ok_bit_pools {P : Program} {w : World} {K : PySem.W.Frag} {mg : Str → Option Value} {base : Heap} {f : Addr} {fd : FuncData} (z_range : mg "range" = none) (z_tuple : mg "tuple" = none) (F : Fun K "bit_pools" "bit_pools" s_bit_pools f fd) : FnOk P w K mg base CX0 1 f fd ["n"] (spM K none 1 m_bit_pools) :=
  F.zk (wr := []) sc_bit_pools none (by decide) (fun i h => by cases h) fun cdv A outer s H E hr =>
    (ass_one (as_ret (ae_bty call_tuple_of al_tuple (by rfl) z_tuple boot_tuple (aa_cons (ae_lc [("bit", 2)] sc_bit_pools.nd (blkOk_by (N := n_bit_pools) (sc := defScope s_bit_pools) (by decide +kernel)) (ai_rg1 (ae_bits (ae_var 0)) (by rfl) z_range) (fun _ _ _ _ _ => (ag_n 2 sc_bit_pools.nd)) (fun _ _ _ _ _ => ats_nil) (fun _ _ _ _ _ => (ae_bty call_tuple_of al_tuple (by rfl) z_tuple boot_tuple (aa_cons (ae_lc [("x", 1)] sc_bit_pools.nd (blkOk_by (by rfl)) (ai_rg1 (ae_var 0) (by rfl) z_range) (fun _ _ _ _ _ => (ag_n 1 sc_bit_pools.nd)) (fun _ _ _ _ _ => (ats_one (at_tru (ae_and (ae_shr (ae_add (ae_var 1) ae_int) (ae_var 2)) ae_int)))) (fun _ _ _ _ _ => (ae_var 1)) gl_v) aa_nil))) gl_v) aa_nil))))
abbrev s_found_by_halves : Stmt := topS 9
abbrev n_found_by_halves : List Str := ["n", "marked_keys", "waiting", "found", "questions", "keys", "is_known", "key", "half"]
theorem sc_found_by_halves : FnScope ["n", "marked_keys", "waiting", "found", "questions", "keys", "is_known", "key", "half"] ["n", "marked_keys"] (defScope s_found_by_halves) := ⟨rfl, rfl, rfl, by decide +kernel, rfl, by decide +kernel, by decide +kernel⟩
abbrev m_found_by_halves := S_found_by_halves
theorem ok_found_by_halves {P : Program} {w : World} {K : PySem.W.Frag} {mg : Str → Option Value} {base : Heap} {f : Addr} {fd : FuncData} (z_tuple : mg "tuple" = none) (z_range : mg "range" = none) (z_any : mg "any" = none) (z_len : mg "len" = none) (F : Fun K "found_by_halves" "found_by_halves" s_found_by_halves f fd) : FnOk P w K mg base CX0 1 f fd ["n", "marked_keys"] (spM K none 2 m_found_by_halves) :=
  F.zk (wr := ([2] ++ ([3] ++ ([4] ++ ((([5] ++ ([6] ++ [])) ++ ((([4] ++ ([] ++ [])) ++ []) ++ ((([] ++ []) ++ []) ++ ([8] ++ ([4] ++ (([] ++ []) ++ [])))))) ++ []))))) sc_found_by_halves none (by decide) (fun i h => by cases h) fun cdv A outer s H E hr =>
    (ass_cons (as_set 2 (ae_lst (aa_cons (ae_tup (aa_cons (ae_trg1 (ae_var 0) (by rfl) z_tuple (by rfl) z_range) (aa_cons ae_bl aa_nil))) aa_nil)) sc_found_by_halves.nd) (ass_cons (as_set 3 (ae_lst aa_nil) sc_found_by_halves.nd) (ass_cons (as_set 4 ae_int sc_found_by_halves.nd) (ass_cons (as_while PassesOwn.never (at_tru (ae_var 2)) (ass_cons (as_asg (ae_pop 2) (ag_t (ags_cons (ag_n 5 sc_found_by_halves.nd) (ags_cons (ag_n 6 sc_found_by_halves.nd) ags_nil)))) (ass_cons (as_if (at_not (at_tru (ae_var 6))) (ass_cons (as_set 4 (ae_add (ae_var 4) ae_int) sc_found_by_halves.nd) (ass_one (as_if (at_not (at_tru (ae_blt call_anyA al_any (by rfl) z_any boot_any (aa_cons (ae_lc [("key", 7)] sc_found_by_halves.nd (blkOk_by (N := n_found_by_halves) (sc := defScope s_found_by_halves) (by decide +kernel)) (ai_seq (ae_var 5)) (fun _ _ _ _ _ => (ag_n 7 sc_found_by_halves.nd)) (fun _ _ _ _ _ => ats_nil) (fun _ _ _ _ _ => (ae_cmp (ac_in hr.u65 (ae_var 7) (ae_var 1)))) gl_v) aa_nil)))) (ass_one as_ct) ass_nil))) ass_nil) (ass_cons (as_if (at_cmp (ac_eq hr.u64 (ae_blt call_len al_len (by rfl) z_len boot_len (aa_cons (ae_var 5) aa_nil)) ae_int)) (ass_cons (as_ex (ae_app 3 (ae_ixd hr.u1 (ae_var 5) ae_int))) (ass_one as_ct)) ass_nil) (ass_cons (as_set 8 (ae_div (ae_add (ae_blt call_len al_len (by rfl) z_len boot_len (aa_cons (ae_var 5) aa_nil)) ae_int) ae_int) sc_found_by_halves.nd) (ass_cons (as_set 4 (ae_add (ae_var 4) ae_int) sc_found_by_halves.nd) (ass_one (as_if (at_tru (ae_blt call_anyA al_any (by rfl) z_any boot_any (aa_cons (ae_lc [("key", 7)] sc_found_by_halves.nd (blkOk_by (N := n_found_by_halves) (sc := defScope s_found_by_halves) (by decide +kernel)) (ai_seq (ae_sl (ae_var 5) ao_none (ao_some (ae_var 8)))) (fun _ _ _ _ _ => (ag_n 7 sc_found_by_halves.nd)) (fun _ _ _ _ _ => ats_nil) (fun _ _ _ _ _ => (ae_cmp (ac_in hr.u65 (ae_var 7) (ae_var 1)))) gl_v) aa_nil))) (ass_cons (as_ex (ae_app 2 (ae_tup (aa_cons (ae_sl (ae_var 5) (ao_some (ae_var 8)) ao_none) (aa_cons ae_bl aa_nil))))) (ass_one (as_ex (ae_app 2 (ae_tup (aa_cons (ae_sl (ae_var 5) ao_none (ao_some (ae_var 8))) (aa_cons ae_bl aa_nil))))))) (ass_one (as_ex (ae_app 2 (ae_tup (aa_cons (ae_sl (ae_var 5) (ao_some (ae_var 8)) ao_none) (aa_cons ae_bl aa_nil)))))))))))))) (ass_one (as_ret (ae_tup (aa_cons (ae_bty call_tuple_of al_tuple (by rfl) z_tuple boot_tuple (aa_cons (ae_var 3) aa_nil)) (aa_cons (ae_var 4) aa_nil)))))))))
abbrev s__law_draws : Stmt := topS 11
abbrev n__law_draws : List Str := ["script", "many", "cells", "cell", "left", "draws", "k", "place", "mixed"]
theorem sc__law_draws : FnScope ["script", "many", "cells", "cell", "left", "draws", "k", "place", "mixed"] ["script", "many"] (defScope s__law_draws) := ⟨rfl, rfl, rfl, by decide +kernel, rfl, by decide +kernel, by decide +kernel⟩
abbrev m__law_draws := S_law_draws
theorem ok__law_draws {P : Program} {w : World} {K : PySem.W.Frag} {mg : Str → Option Value} {base : Heap} {f : Addr} {fd : FuncData} (z_int : mg "int" = none) (z_len : mg "len" = none) (z_list : mg "list" = none) (z_range : mg "range" = none) (F : Fun K "_law_draws" "_law_draws" s__law_draws f fd) : FnOk P w K mg base CX0 1 f fd ["script", "many"] (spM K none 2 m__law_draws) :=
  F.zk (wr := ([2] ++ (([] ++ []) ++ ([4] ++ ([5] ++ (([6] ++ ([7] ++ (([] ++ []) ++ ([8] ++ [])))) ++ ([] ++ []))))))) sc__law_draws none (by decide) (fun i h => by cases h) fun cdv A outer s H E hr =>
    (ass_cons (as_setLc 2 [("cell", 3)] sc__law_draws.nd (blkOk_by (N := n__law_draws) (sc := defScope s__law_draws) (by decide +kernel)) (ai_seq (ae_sl (ae_var 0) ao_none (ao_some ae_int))) (fun _ _ _ _ _ => (ag_n 3 sc__law_draws.nd)) (fun _ _ _ _ _ => ats_nil) (fun _ _ _ _ _ => (ae_mod (ae_bty call_int1 al_int (by rfl) z_int boot_int (aa_cons (ae_var 3) aa_nil)) (ae_shl ae_int ae_int))) gl_v (by decide +kernel)) (ass_cons (as_if (at_cmp (ac_eq hr.u64 (ae_blt call_len al_len (by rfl) z_len boot_len (aa_cons (ae_var 2) aa_nil)) ae_int)) (ass_one (as_ex (ae_app 2 ae_int))) ass_nil) (ass_cons (as_set 4 (ae_bty call_list_of al_list (by rfl) z_list boot_list (aa_cons (ae_var 2) aa_nil)) sc__law_draws.nd) (ass_cons (as_set 5 (ae_lst aa_nil) sc__law_draws.nd) (ass_cons (as_for PassesOwn.never (ai_rg1 (ae_var 1) (by rfl) z_range) (ag_n 6 sc__law_draws.nd) (ass_cons (as_set 7 (ae_mod (ae_bty call_int1 al_int (by rfl) z_int boot_int (aa_cons (ae_var 6) aa_nil)) (ae_blt call_len al_len (by rfl) z_len boot_len (aa_cons (ae_var 2) aa_nil))) sc__law_draws.nd) (ass_one (as_if (at_w (aw_and (at_cmp (ac_ge (ae_ixd hr.u1 (ae_var 2) (ae_var 7)) (ae_pow ae_int ae_int))) (aw_and1 (at_cmp (ac_gt (ae_ixd hr.u1 (ae_var 4) (ae_var 7)) ae_int))))) (ass_cons (as_ex (ae_app 5 (ae_mod (ae_bty call_int1 al_int (by rfl) z_int boot_int (aa_cons (ae_ixd hr.u1 (ae_var 4) (ae_var 7)) aa_nil)) ae_int))) (ass_one (as_put 4 hr.u1 (ae_var 7) (ae_div (ae_ixd hr.u1 (ae_var 4) (ae_var 7)) ae_int)))) (ass_cons (as_set 8 (ae_mod (ae_bty call_int1 al_int (by rfl) z_int boot_int (aa_cons (ae_add (ae_add (ae_mul (ae_ixd hr.u1 (ae_var 2) (ae_var 7)) ae_int) (ae_mul (ae_var 6) ae_int)) ae_int) aa_nil)) ae_int) sc__law_draws.nd) (ass_one (as_ex (ae_app 5 (ae_mod (ae_bty call_int1 al_int (by rfl) z_int boot_int (aa_cons (ae_add (ae_add (ae_mul (ae_var 8) (ae_var 8)) (ae_mul ae_int (ae_var 8))) (ae_var 6)) aa_nil)) ae_int))))))))) (ass_cons (as_ex (ae_rev 5)) (ass_one (as_ret (ae_var 5)))))))))
abbrev s__law_take : Stmt := topS 12
theorem sc__law_take : FnScope ["draws", "many"] ["draws", "many"] (defScope s__law_take) := ⟨rfl, rfl, rfl, by decide +kernel, rfl, by decide +kernel, by decide +kernel⟩
abbrev m__law_take := S_law_take
theorem ok__law_take {P : Program} {w : World} {K : PySem.W.Frag} {mg : Str → Option Value} {base : Heap} {f : Addr} {fd : FuncData} (z_len : mg "len" = none) (z_int : mg "int" = none) (F : Fun K "_law_take" "_law_take" s__law_take f fd) : FnOk P w K mg base CX0 1 f fd ["draws", "many"] (spM K (some 0) 2 m__law_take) :=
  F.zk (wr := (([] ++ []) ++ [])) sc__law_take (some 0) (by decide) (fun i h => by cases h; decide) fun cdv A outer s H E hr =>
    (ass_cons (as_if (at_cmp (ac_eq hr.u64 (ae_blt call_len al_len (by rfl) z_len boot_len (aa_cons (ae_var 0) aa_nil)) ae_int)) (ass_one (as_ret ae_int)) ass_nil) (ass_one (as_ret (ae_mod (ae_bty call_int1 al_int (by rfl) z_int boot_int (aa_cons (ae_pop 0) aa_nil)) (ae_var 1)))))
abbrev s__law_pick : Stmt := topS 13
theorem sc__law_pick : FnScope ["draws", "row"] ["draws", "row"] (defScope s__law_pick) := ⟨rfl, rfl, rfl, by decide +kernel, rfl, by decide +kernel, by decide +kernel⟩
abbrev m__law_pick := S_law_pick
theorem ok__law_pick {P : Program} {w : World} {K : PySem.W.Frag} {mg : Str → Option Value} {base : Heap} {f : Addr} {fd : FuncData} (z_len : mg "len" = none) (o__law_take : Ok P w K mg base 1 "_law_take" ["draws", "many"] (some 0) 2 S_law_take) (F : Fun K "_law_pick" "_law_pick" s__law_pick f fd) : FnOk P w K mg base CX0 2 f fd ["draws", "row"] (spM K (some 0) 2 m__law_pick) :=
  F.zk (wr := []) sc__law_pick (some 0) (by decide) (fun i h => by cases h; decide) fun cdv A outer s H E hr =>
    (ass_one (as_ret (ae_ixd hr.u1 (ae_var 1) (ae_fn o__law_take hr (by rfl) (aa_cons (ae_var 0) (aa_cons (ae_blt call_len al_len (by rfl) z_len boot_len (aa_cons (ae_var 1) aa_nil)) aa_nil)) (npc (npc np0))))))
abbrev s__law_same : Stmt := topS 14
abbrev n__law_same : List Str := ["actual", "due", "k"]
theorem sc__law_same : FnScope ["actual", "due", "k"] ["actual", "due"] (defScope s__law_same) := ⟨rfl, rfl, rfl, by decide +kernel, rfl, by decide +kernel, by decide +kernel⟩
abbrev m__law_same := S_law_same
theorem ok__law_same {P : Program} {w : World} {K : PySem.W.Frag} {mg : Str → Option Value} {base : Heap} {f : Addr} {fd : FuncData} (z_list : mg "list" = none) (z_tuple : mg "tuple" = none) (z_isinstance : mg "isinstance" = none) (z_len : mg "len" = none) (z_range : mg "range" = none) (z_bool : mg "bool" = none) (z_int : mg "int" = none) (z_str : mg "str" = none) (F : Fun K "_law_same" "_law_same" s__law_same f fd) (hm : mg "_law_same" = some (.ref f)) (hb : Binds K fd ["actual", "due"] []) : ∀ n : Nat, FnOk P w K mg base CX0 (0 + n) f fd ["actual", "due"] (spM K none 2 (m__law_same n))
  | 0 => fn_none fun ds => rfl
  | n + 1 =>
    have o__law_same : Ok P w K mg base (0 + n) "_law_same" ["actual", "due"] none 2 (m__law_same n) := ⟨f, fd, ok__law_same z_list z_tuple z_isinstance z_len z_range z_bool z_int z_str F hm hb n, hm, F.kp, hb⟩
    F.zk (wr := (((([] ++ []) ++ (([] ++ []) ++ [])) ++ []) ++ (([] ++ []) ++ (([] ++ []) ++ [])))) sc__law_same none (by decide) (fun i h => by cases h) fun cdv A outer s H E hr =>
      (ass_cons (as_if (at_tru (ae_blt call_isiA al_isi (by rfl) z_isinstance boot_isinstance (aa_cons (ae_var 1) (aa_cons (ae_tup (aa_cons (ae_typ (by rfl) z_tuple boot_tuple) (aa_cons (ae_typ (by rfl) z_list boot_list) aa_nil))) aa_nil)))) (ass_cons (as_if (at_w (aw_or (at_cmp (ac_ne hr.u64 (ae_blt call_isiA al_isi (by rfl) z_isinstance boot_isinstance (aa_cons (ae_var 0) (aa_cons (ae_typ (by rfl) z_tuple boot_tuple) aa_nil))) (ae_blt call_isiA al_isi (by rfl) z_isinstance boot_isinstance (aa_cons (ae_var 1) (aa_cons (ae_typ (by rfl) z_tuple boot_tuple) aa_nil))))) (aw_or1 (at_cmp (ac_ne hr.u64 (ae_blt call_isiA al_isi (by rfl) z_isinstance boot_isinstance (aa_cons (ae_var 0) (aa_cons (ae_typ (by rfl) z_list boot_list) aa_nil))) (ae_blt call_isiA al_isi (by rfl) z_isinstance boot_isinstance (aa_cons (ae_var 1) (aa_cons (ae_typ (by rfl) z_list boot_list) aa_nil)))))))) (ass_one (as_ret ae_bl)) ass_nil) (ass_cons (as_if (at_cmp (ac_ne hr.u64 (ae_blt call_len al_len (by rfl) z_len boot_len (aa_cons (ae_var 0) aa_nil)) (ae_blt call_len al_len (by rfl) z_len boot_len (aa_cons (ae_var 1) aa_nil)))) (ass_one (as_ret ae_bl)) ass_nil) (ass_one (as_ret (ae_cmp (ac_notIn hr.u65 ae_bl (ae_lc [("k", 2)] sc__law_same.nd (blkOk_by (N := n__law_same) (sc := defScope s__law_same) (by decide +kernel)) (ai_rg1 (ae_blt call_len al_len (by rfl) z_len boot_len (aa_cons (ae_var 1) aa_nil)) (by rfl) z_range) (fun _ _ _ _ _ => (ag_n 2 sc__law_same.nd)) (fun _ _ _ _ _ => ats_nil) (fun _ _ _ _ _ => (ae_fn o__law_same hr (by rfl) (aa_cons (ae_ixd hr.u1 (ae_var 0) (ae_var 2)) (aa_cons (ae_ixd hr.u1 (ae_var 1) (ae_var 2)) aa_nil)) (npc (npc np0)))) gl_v))))))) ass_nil) (ass_cons (as_if (at_w (aw_or (at_cmp (ac_ne hr.u64 (ae_blt call_isiA al_isi (by rfl) z_isinstance boot_isinstance (aa_cons (ae_var 0) (aa_cons (ae_typ (by rfl) z_bool boot_bool) aa_nil))) (ae_blt call_isiA al_isi (by rfl) z_isinstance boot_isinstance (aa_cons (ae_var 1) (aa_cons (ae_typ (by rfl) z_bool boot_bool) aa_nil))))) (aw_or1 (at_cmp (ac_ne hr.u64 (ae_blt call_isiA al_isi (by rfl) z_isinstance boot_isinstance (aa_cons (ae_var 0) (aa_cons (ae_typ (by rfl) z_int boot_int) aa_nil))) (ae_blt call_isiA al_isi (by rfl) z_isinstance boot_isinstance (aa_cons (ae_var 1) (aa_cons (ae_typ (by rfl) z_int boot_int) aa_nil)))))))) (ass_one (as_ret ae_bl)) ass_nil) (ass_cons (as_if (at_w (aw_or (at_cmp (ac_ne hr.u64 (ae_blt call_isiA al_isi (by rfl) z_isinstance boot_isinstance (aa_cons (ae_var 0) (aa_cons (ae_typ (by rfl) z_str boot_str) aa_nil))) (ae_blt call_isiA al_isi (by rfl) z_isinstance boot_isinstance (aa_cons (ae_var 1) (aa_cons (ae_typ (by rfl) z_str boot_str) aa_nil))))) (aw_or1 (at_cmp (ac_ne hr.u64 (ae_cmp (ac_isN (ae_var 0))) (ae_cmp (ac_isN (ae_var 1)))))))) (ass_one (as_ret ae_bl)) ass_nil) (ass_one (as_ret (ae_cmp (ac_eq hr.u64 (ae_var 0) (ae_var 1))))))))
abbrev s__law_put : Stmt := topS 15
theorem sc__law_put : FnScope ["row", "k", "thing"] ["row", "k", "thing"] (defScope s__law_put) := ⟨rfl, rfl, rfl, by decide +kernel, rfl, by decide +kernel, by decide +kernel⟩
abbrev m__law_put := S_law_put
theorem ok__law_put {P : Program} {w : World} {K : PySem.W.Frag} {mg : Str → Option Value} {base : Heap} {f : Addr} {fd : FuncData} (F : Fun K "_law_put" "_law_put" s__law_put f fd) : FnOk P w K mg base CX0 1 f fd ["row", "k", "thing"] (spM K none 3 m__law_put) :=
  F.zk (wr := []) sc__law_put none (by decide) (fun i h => by cases h) fun cdv A outer s H E hr =>
    (ass_one (as_ret (ae_add (ae_add (ae_sl (ae_var 0) ao_none (ao_some (ae_var 1))) (ae_tup (aa_cons (ae_var 2) aa_nil))) (ae_sl (ae_var 0) (ao_some (ae_add (ae_var 1) ae_int)) ao_none))))
abbrev s__law_set : Stmt := topS 16
theorem sc__law_set : FnScope ["draws", "top", "many", "found", "k", "key"] ["draws", "top", "many"] (defScope s__law_set) := ⟨rfl, rfl, rfl, by decide +kernel, rfl, by decide +kernel, by decide +kernel⟩
abbrev m__law_set := S_law_set
theorem ok__law_set {P : Program} {w : World} {K : PySem.W.Frag} {mg : Str → Option Value} {base : Heap} {f : Addr} {fd : FuncData} (z_range : mg "range" = none) (z_sorted : mg "sorted" = none) (z_tuple : mg "tuple" = none) (o__law_take : Ok P w K mg base 1 "_law_take" ["draws", "many"] (some 0) 2 S_law_take) (F : Fun K "_law_set" "_law_set" s__law_set f fd) : FnOk P w K mg base CX0 2 f fd ["draws", "top", "many"] (spM K (some 0) 3 m__law_set) :=
  F.zk (wr := ([3] ++ (([4] ++ ([5] ++ ([] ++ []))) ++ []))) sc__law_set (some 0) (by decide) (fun i h => by cases h; decide) fun cdv A outer s H E hr =>
    (ass_cons (as_set 3 (ae_lst aa_nil) sc__law_set.nd) (ass_cons (as_for PassesOwn.never (ai_rg1 (ae_fn o__law_take hr (by rfl) (aa_cons (ae_var 0) (aa_cons (ae_add (ae_var 2) ae_int) aa_nil)) (npc (npc np0))) (by rfl) z_range) (ag_n 4 sc__law_set.nd) (ass_cons (as_set 5 (ae_fn o__law_take hr (by rfl) (aa_cons (ae_var 0) (aa_cons (ae_var 1) aa_nil)) (npc (npc np0))) sc__law_set.nd) (ass_one (as_if (at_cmp (ac_notIn hr.u65 (ae_var 5) (ae_var 3))) (ass_one (as_ex (ae_app 3 (ae_var 5)))) ass_nil)))) (ass_one (as_ret (ae_bty call_tuple_of al_tuple (by rfl) z_tuple boot_tuple (aa_cons (ae_srt (by rfl) z_sorted (ae_var 3)) aa_nil))))))
abbrev s__law_half : Stmt := topS 17
theorem sc__law_half : FnScope ["draws", "row", "told", "thing"] ["draws", "row"] (defScope s__law_half) := ⟨rfl, rfl, rfl, by decide +kernel, rfl, by decide +kernel, by decide +kernel⟩
abbrev m__law_half := S_law_half
theorem ok__law_half {P : Program} {w : World} {K : PySem.W.Frag} {mg : Str → Option Value} {base : Heap} {f : Addr} {fd : FuncData} (o__law_take : Ok P w K mg base 1 "_law_take" ["draws", "many"] (some 0) 2 S_law_take) (F : Fun K "_law_half" "_law_half" s__law_half f fd) : FnOk P w K mg base CX0 2 f fd ["draws", "row"] (spM K (some 0) 2 m__law_half) :=
  F.zk (wr := ([2] ++ (([3] ++ ([] ++ [])) ++ []))) sc__law_half (some 0) (by decide) (fun i h => by cases h; decide) fun cdv A outer s H E hr =>
    (ass_cons (as_set 2 (ae_lst aa_nil) sc__law_half.nd) (ass_cons (as_for PassesOwn.never (ai_seq (ae_var 1)) (ag_n 3 sc__law_half.nd) (ass_one (as_if (at_cmp (ac_eq hr.u64 (ae_fn o__law_take hr (by rfl) (aa_cons (ae_var 0) (aa_cons ae_int aa_nil)) (npc (npc np0))) ae_int)) (ass_one (as_ex (ae_app 2 (ae_var 3)))) ass_nil))) (ass_one (as_ret (ae_var 2)))))
abbrev s__law_few_sets : Stmt := topS 18
abbrev n__law_few_sets : List Str := ["n", "s", "told", "left", "k", "more", "one", "low", "key"]
theorem sc__law_few_sets : FnScope ["n", "s", "told", "left", "k", "more", "one", "low", "key"] ["n", "s"] (defScope s__law_few_sets) := ⟨rfl, rfl, rfl, by decide +kernel, rfl, by decide +kernel, by decide +kernel⟩
abbrev m__law_few_sets := S_law_few_sets
theorem ok__law_few_sets {P : Program} {w : World} {K : PySem.W.Frag} {mg : Str → Option Value} {base : Heap} {f : Addr} {fd : FuncData} (z_range : mg "range" = none) (z_len : mg "len" = none) (F : Fun K "_law_few_sets" "_law_few_sets" s__law_few_sets f fd) : FnOk P w K mg base CX0 1 f fd ["n", "s"] (spM K none 2 m__law_few_sets) :=
  F.zk (wr := ([2] ++ ([3] ++ (([4] ++ ([5] ++ (([6] ++ ([7] ++ (([7] ++ []) ++ [5]))) ++ ([2] ++ [3])))) ++ [])))) sc__law_few_sets none (by decide) (fun i h => by cases h) fun cdv A outer s H E hr =>
    (ass_cons (as_set 2 (ae_lst (aa_cons (ae_tup aa_nil) aa_nil)) sc__law_few_sets.nd) (ass_cons (as_set 3 (ae_lst (aa_cons (ae_tup aa_nil) aa_nil)) sc__law_few_sets.nd) (ass_cons (as_for PassesOwn.never (ai_rg1 (ae_var 1) (by rfl) z_range) (ag_n 4 sc__law_few_sets.nd) (ass_cons (as_set 5 (ae_lst aa_nil) sc__law_few_sets.nd) (ass_cons (as_for PassesOwn.never (ai_seq (ae_var 3)) (ag_n 6 sc__law_few_sets.nd) (ass_cons (as_set 7 ae_int sc__law_few_sets.nd) (ass_cons (as_if (at_cmp (ac_gt (ae_blt call_len al_len (by rfl) z_len boot_len (aa_cons (ae_var 6) aa_nil)) ae_int)) (ass_one (as_set 7 (ae_add (ae_ixd hr.u1 (ae_var 6) (ae_neg ae_int)) ae_int) sc__law_few_sets.nd)) ass_nil) (ass_one (as_set 5 (ae_add (ae_var 5) (ae_lc [("key", 8)] sc__law_few_sets.nd (blkOk_by (N := n__law_few_sets) (sc := defScope s__law_few_sets) (by decide +kernel)) (ai_rg2 (ae_var 7) (ae_var 0) (by rfl) z_range) (fun _ _ _ _ _ => (ag_n 8 sc__law_few_sets.nd)) (fun _ _ _ _ _ => ats_nil) (fun _ _ _ _ _ => (ae_add (ae_var 6) (ae_tup (aa_cons (ae_var 8) aa_nil)))) gl_v)) sc__law_few_sets.nd))))) (ass_cons (as_set 2 (ae_add (ae_var 2) (ae_var 5)) sc__law_few_sets.nd) (ass_one (as_set 3 (ae_var 5) sc__law_few_sets.nd)))))) (ass_one (as_ret (ae_var 2))))))
abbrev s__law_said : Stmt := topS 19
abbrev n__law_said : List Str := ["pools", "chosen", "key", "pool"]
theorem sc__law_said : FnScope ["pools", "chosen", "key", "pool"] ["pools", "chosen"] (defScope s__law_said) := ⟨rfl, rfl, rfl, by decide +kernel, rfl, by decide +kernel, by decide +kernel⟩
abbrev m__law_said := S_law_said
theorem ok__law_said {P : Program} {w : World} {K : PySem.W.Frag} {mg : Str → Option Value} {base : Heap} {f : Addr} {fd : FuncData} (z_int : mg "int" = none) (z_tuple : mg "tuple" = none) (F : Fun K "_law_said" "_law_said" s__law_said f fd) : FnOk P w K mg base CX0 1 f fd ["pools", "chosen"] (spM K none 2 m__law_said) :=
  F.zk (wr := []) sc__law_said none (by decide) (fun i h => by cases h) fun cdv A outer s H E hr =>
    (ass_one (as_ret (ae_bty call_tuple_of al_tuple (by rfl) z_tuple boot_tuple (aa_cons (ae_lc [("pool", 3)] sc__law_said.nd (blkOk_by (N := n__law_said) (sc := defScope s__law_said) (by decide +kernel)) (ai_seq (ae_var 0)) (fun _ _ _ _ _ => (ag_n 3 sc__law_said.nd)) (fun _ _ _ _ _ => ats_nil) (fun _ _ _ _ _ => (ae_bty call_int1 al_int (by rfl) z_int boot_int (aa_cons (ae_cmp (ac_in hr.u65 ae_bl (ae_lc [("key", 2)] sc__law_said.nd (blkOk_by (by rfl)) (ai_seq (ae_var 1)) (fun _ _ _ _ _ => (ag_n 2 sc__law_said.nd)) (fun _ _ _ _ _ => ats_nil) (fun _ _ _ _ _ => (ae_cmp (ac_in hr.u65 (ae_var 2) (ae_var 3)))) gl_v))) aa_nil))) gl_v) aa_nil))))
abbrev s__law_pools : Stmt := topS 20
theorem sc__law_pools : FnScope ["draws", "n", "many", "told", "k", "pool"] ["draws", "n", "many"] (defScope s__law_pools) := ⟨rfl, rfl, rfl, by decide +kernel, rfl, by decide +kernel, by decide +kernel⟩
abbrev m__law_pools := S_law_pools
theorem ok__law_pools {P : Program} {w : World} {K : PySem.W.Frag} {mg : Str → Option Value} {base : Heap} {f : Addr} {fd : FuncData} (z_range : mg "range" = none) (z_list : mg "list" = none) (z_tuple : mg "tuple" = none) (o__law_take : Ok P w K mg base 2 "_law_take" ["draws", "many"] (some 0) 2 S_law_take) (o__law_half : Ok P w K mg base 2 "_law_half" ["draws", "row"] (some 0) 2 S_law_half) (o__law_set : Ok P w K mg base 2 "_law_set" ["draws", "top", "many"] (some 0) 3 S_law_set) (o__law_pick : Ok P w K mg base 2 "_law_pick" ["draws", "row"] (some 0) 2 S_law_pick) (F : Fun K "_law_pools" "_law_pools" s__law_pools f fd) : FnOk P w K mg base CX0 3 f fd ["draws", "n", "many"] (spM K (some 0) 3 m__law_pools) :=
  F.zk (wr := ([3] ++ (([4] ++ ([5] ++ (([5] ++ []) ++ (([5] ++ []) ++ [])))) ++ []))) sc__law_pools (some 0) (by decide) (fun i h => by cases h; decide) fun cdv A outer s H E hr =>
    (ass_cons (as_set 3 (ae_lst aa_nil) sc__law_pools.nd) (ass_cons (as_for PassesOwn.never (ai_rg1 (ae_fn o__law_take hr (by rfl) (aa_cons (ae_var 0) (aa_cons (ae_add (ae_var 2) ae_int) aa_nil)) (npc (npc np0))) (by rfl) z_range) (ag_n 4 sc__law_pools.nd) (ass_cons (as_set 5 (ae_bty call_tuple_of al_tuple (by rfl) z_tuple boot_tuple (aa_cons (ae_fn o__law_half hr (by rfl) (aa_cons (ae_var 0) (aa_cons (ae_lrg1 (ae_var 1) (by rfl) z_list (by rfl) z_range) aa_nil)) (npc (npc np0))) aa_nil)) sc__law_pools.nd) (ass_cons (as_if (at_cmp (ac_eq hr.u64 (ae_fn o__law_take hr (by rfl) (aa_cons (ae_var 0) (aa_cons ae_int aa_nil)) (npc (npc np0))) ae_int)) (ass_one (as_set 5 (ae_fn o__law_set hr (by rfl) (aa_cons (ae_var 0) (aa_cons (ae_var 1) (aa_cons ae_int aa_nil))) (npc (npc (npc np0)))) sc__law_pools.nd)) ass_nil) (ass_cons (as_if (at_cmp (ac_eq hr.u64 (ae_fn o__law_take hr (by rfl) (aa_cons (ae_var 0) (aa_cons ae_int aa_nil)) (npc (npc np0))) ae_int)) (ass_one (as_set 5 (ae_fn o__law_pick hr (by rfl) (aa_cons (ae_var 0) (aa_cons (ae_lst (aa_cons (ae_tup aa_nil) (aa_cons (ae_trg1 (ae_var 1) (by rfl) z_tuple (by rfl) z_range) (aa_cons (ae_ixd hr.u1 (ae_add (ae_var 3) (ae_lst (aa_cons (ae_var 5) aa_nil))) ae_int) aa_nil)))) aa_nil)) (npc (npc np0))) sc__law_pools.nd)) ass_nil) (ass_one (as_ex (ae_app 3 (ae_var 5)))))))) (ass_one (as_ret (ae_bty call_tuple_of al_tuple (by rfl) z_tuple boot_tuple (aa_cons (ae_var 3) aa_nil))))))
abbrev s__law_off_k58 : Stmt := topS 21
abbrev n__law_off_k58 : List Str := ["one", "other", "k"]
theorem sc__law_off_k58 : FnScope ["one", "other", "k"] ["one", "other"] (defScope s__law_off_k58) := ⟨rfl, rfl, rfl, by decide +kernel, rfl, by decide +kernel, by decide +kernel⟩
abbrev m__law_off_k58 := S_law_off_k58
theorem ok__law_off_k58 {P : Program} {w : World} {K : PySem.W.Frag} {mg : Str → Option Value} {base : Heap} {f : Addr} {fd : FuncData} (z_range : mg "range" = none) (z_len : mg "len" = none) (F : Fun K "_law_off_k58" "_law_off_k58" s__law_off_k58 f fd) : FnOk P w K mg base CX0 1 f fd ["one", "other"] (spM K none 2 m__law_off_k58) :=
  F.zk (wr := []) sc__law_off_k58 none (by decide) (fun i h => by cases h) fun cdv A outer s H E hr =>
    (ass_one (as_ret (ae_blt call_len al_len (by rfl) z_len boot_len (aa_cons (ae_lc [("k", 2)] sc__law_off_k58.nd (blkOk_by (N := n__law_off_k58) (sc := defScope s__law_off_k58) (by decide +kernel)) (ai_rg1 (ae_blt call_len al_len (by rfl) z_len boot_len (aa_cons (ae_var 0) aa_nil)) (by rfl) z_range) (fun _ _ _ _ _ => (ag_n 2 sc__law_off_k58.nd)) (fun _ _ _ _ _ => (ats_one (at_cmp (ac_ne hr.u64 (ae_ixd hr.u1 (ae_var 0) (ae_var 2)) (ae_ixd hr.u1 (ae_var 1) (ae_var 2)))))) (fun _ _ _ _ _ => (ae_var 2)) gl_v) aa_nil))))
abbrev s__law_distance : Stmt := topS 22
abbrev n__law_distance : List Str := ["pools", "n", "s", "said", "one", "told", "k", "j", "off"]
theorem sc__law_distance : FnScope ["pools", "n", "s", "said", "one", "told", "k", "j", "off"] ["pools", "n", "s"] (defScope s__law_distance) := ⟨rfl, rfl, rfl, by decide +kernel, rfl, by decide +kernel, by decide +kernel⟩
abbrev m__law_distance := S_law_distance
theorem ok__law_distance {P : Program} {w : World} {K : PySem.W.Frag} {mg : Str → Option Value} {base : Heap} {f : Addr} {fd : FuncData} (z_range : mg "range" = none) (z_len : mg "len" = none) (o__law_few_sets : Ok P w K mg base 1 "_law_few_sets" ["n", "s"] none 2 S_law_few_sets) (o__law_said : Ok P w K mg base 1 "_law_said" ["pools", "chosen"] none 2 S_law_said) (o__law_off_k58 : Ok P w K mg base 1 "_law_off_k58" ["one", "other"] none 2 S_law_off_k58) (F : Fun K "_law_distance" "_law_distance" s__law_distance f fd) : FnOk P w K mg base CX0 2 f fd ["pools", "n", "s"] (spM K none 3 m__law_distance) :=
  F.zk (wr := ([3] ++ ([5] ++ (([6] ++ ([7] ++ ([8] ++ ([5] ++ [])))) ++ [])))) sc__law_distance none (by decide) (fun i h => by cases h) fun cdv A outer s H E hr =>
    (ass_cons (as_setLc 3 [("one", 4)] sc__law_distance.nd (blkOk_by (N := n__law_distance) (sc := defScope s__law_distance) (by decide +kernel)) (ai_seq (ae_fn o__law_few_sets hr (by rfl) (aa_cons (ae_var 1) (aa_cons (ae_var 2) aa_nil)) (npc (npc np0)))) (fun _ _ _ _ _ => (ag_n 4 sc__law_distance.nd)) (fun _ _ _ _ _ => ats_nil) (fun _ _ _ _ _ => (ae_fn o__law_said hr (by rfl) (aa_cons (ae_var 0) (aa_cons (ae_var 4) aa_nil)) (npc (npc np0)))) gl_v (by decide +kernel)) (ass_cons (as_set 5 ae_non sc__law_distance.nd) (ass_cons (as_for PassesOwn.never (ai_rg1 (ae_blt call_len al_len (by rfl) z_len boot_len (aa_cons (ae_var 3) aa_nil)) (by rfl) z_range) (ag_n 6 sc__law_distance.nd) (ass_one (as_for PassesOwn.never (ai_rg1 (ae_var 6) (by rfl) z_range) (ag_n 7 sc__law_distance.nd) (ass_cons (as_set 8 (ae_fn o__law_off_k58 hr (by rfl) (aa_cons (ae_ixd hr.u1 (ae_var 3) (ae_var 6)) (aa_cons (ae_ixd hr.u1 (ae_var 3) (ae_var 7)) aa_nil)) (npc (npc np0))) sc__law_distance.nd) (ass_one (as_if (at_w (aw_or (at_cmp (ac_isN (ae_var 5))) (aw_or1 (at_cmp (ac_lt (ae_var 8) (ae_var 5)))))) (ass_one (as_set 5 (ae_var 8) sc__law_distance.nd)) ass_nil)))))) (ass_one (as_ret (ae_var 5))))))
abbrev s__law_halves : Stmt := topS 23
abbrev n__law_halves : List Str := ["n", "chosen", "asked", "heaps", "turn", "low", "high", "open_now", "key", "middle"]
theorem sc__law_halves : FnScope ["n", "chosen", "asked", "heaps", "turn", "low", "high", "open_now", "key", "middle"] ["n", "chosen"] (defScope s__law_halves) := ⟨rfl, rfl, rfl, by decide +kernel, rfl, by decide +kernel, by decide +kernel⟩
abbrev m__law_halves := S_law_halves
theorem ok__law_halves {P : Program} {w : World} {K : PySem.W.Frag} {mg : Str → Option Value} {base : Heap} {f : Addr} {fd : FuncData} (z_range : mg "range" = none) (z_len : mg "len" = none) (F : Fun K "_law_halves" "_law_halves" s__law_halves f fd) : FnOk P w K mg base CX0 1 f fd ["n", "chosen"] (spM K none 2 m__law_halves) :=
  F.zk (wr := ([2] ++ ([3] ++ (([4] ++ (([] ++ []) ++ (([5] ++ ([6] ++ ([7] ++ []))) ++ ((([2] ++ ([] ++ [])) ++ []) ++ (([9] ++ ([2] ++ (([] ++ []) ++ []))) ++ []))))) ++ [])))) sc__law_halves none (by decide) (fun i h => by cases h) fun cdv A outer s H E hr =>
    (ass_cons (as_set 2 ae_int sc__law_halves.nd) (ass_cons (as_set 3 (ae_lst (aa_cons (ae_tup (aa_cons ae_int (aa_cons (ae_var 0) (aa_cons ae_int aa_nil)))) aa_nil)) sc__law_halves.nd) (ass_cons (as_for PassesOwn.never (ai_rg1 ae_int (by rfl) z_range) (ag_n 4 sc__law_halves.nd) (ass_cons (as_if (at_cmp (ac_eq hr.u64 (ae_blt call_len al_len (by rfl) z_len boot_len (aa_cons (ae_var 3) aa_nil)) ae_int)) (ass_one as_bk) ass_nil) (ass_cons (as_asg (ae_pop 3) (ag_t (ags_cons (ag_n 5 sc__law_halves.nd) (ags_cons (ag_n 6 sc__law_halves.nd) (ags_cons (ag_n 7 sc__law_halves.nd) ags_nil))))) (ass_cons (as_if (at_cmp (ac_eq hr.u64 (ae_var 7) ae_int)) (ass_cons (as_set 2 (ae_add (ae_var 2) ae_int) sc__law_halves.nd) (ass_one (as_if (at_cmp (ac_notIn hr.u65 ae_bl (ae_lc [("key", 8)] sc__law_halves.nd (blkOk_by (N := n__law_halves) (sc := defScope s__law_halves) (by decide +kernel)) (ai_seq (ae_var 1)) (fun _ _ _ _ _ => (ag_n 8 sc__law_halves.nd)) (fun _ _ _ _ _ => ats_nil) (fun _ _ _ _ _ => (ae_andV (ae_cmp (ac_le (ae_var 5) (ae_var 8))) (ae_one (ae_cmp (ac_lt (ae_var 8) (ae_var 6)))))) gl_v))) (ass_one as_ct) ass_nil))) ass_nil) (ass_one (as_if (at_cmp (ac_gt (ae_sub (ae_var 6) (ae_var 5)) ae_int)) (ass_cons (as_set 9 (ae_add (ae_var 5) (ae_div (ae_add (ae_sub (ae_var 6) (ae_var 5)) ae_int) ae_int)) sc__law_halves.nd) (ass_cons (as_set 2 (ae_add (ae_var 2) ae_int) sc__law_halves.nd) (ass_one (as_if (at_cmp (ac_in hr.u65 ae_bl (ae_lc [("key", 8)] sc__law_halves.nd (blkOk_by (N := n__law_halves) (sc := defScope s__law_halves) (by decide +kernel)) (ai_seq (ae_var 1)) (fun _ _ _ _ _ => (ag_n 8 sc__law_halves.nd)) (fun _ _ _ _ _ => ats_nil) (fun _ _ _ _ _ => (ae_andV (ae_cmp (ac_le (ae_var 5) (ae_var 8))) (ae_one (ae_cmp (ac_lt (ae_var 8) (ae_var 9)))))) gl_v))) (ass_cons (as_ex (ae_app 3 (ae_tup (aa_cons (ae_var 9) (aa_cons (ae_var 6) (aa_cons ae_int aa_nil)))))) (ass_one (as_ex (ae_app 3 (ae_tup (aa_cons (ae_var 5) (aa_cons (ae_var 9) (aa_cons ae_int aa_nil)))))))) (ass_one (as_ex (ae_app 3 (ae_tup (aa_cons (ae_var 9) (aa_cons (ae_var 6) (aa_cons ae_int aa_nil))))))))))) ass_nil)))))) (ass_one (as_ret (ae_var 2))))))
abbrev s__law_faulty : Stmt := topS 24
theorem sc__law_faulty : FnScope ["draws", "answers", "e", "told", "k", "place"] ["draws", "answers", "e"] (defScope s__law_faulty) := ⟨rfl, rfl, rfl, by decide +kernel, rfl, by decide +kernel, by decide +kernel⟩
abbrev m__law_faulty := S_law_faulty
theorem ok__law_faulty {P : Program} {w : World} {K : PySem.W.Frag} {mg : Str → Option Value} {base : Heap} {f : Addr} {fd : FuncData} (z_range : mg "range" = none) (z_len : mg "len" = none) (o__law_take : Ok P w K mg base 1 "_law_take" ["draws", "many"] (some 0) 2 S_law_take) (o__law_put : Ok P w K mg base 1 "_law_put" ["row", "k", "thing"] none 3 S_law_put) (F : Fun K "_law_faulty" "_law_faulty" s__law_faulty f fd) : FnOk P w K mg base CX0 2 f fd ["draws", "answers", "e"] (spM K (some 0) 3 m__law_faulty) :=
  F.zk (wr := ([3] ++ (([4] ++ (([5] ++ [3]) ++ [])) ++ []))) sc__law_faulty (some 0) (by decide) (fun i h => by cases h; decide) fun cdv A outer s H E hr =>
    (ass_cons (as_set 3 (ae_var 1) sc__law_faulty.nd) (ass_cons (as_for PassesOwn.never (ai_rg1 (ae_var 2) (by rfl) z_range) (ag_n 4 sc__law_faulty.nd) (ass_one (as_if (at_cmp (ac_gt (ae_blt call_len al_len (by rfl) z_len boot_len (aa_cons (ae_var 3) aa_nil)) ae_int)) (ass_cons (as_set 5 (ae_fn o__law_take hr (by rfl) (aa_cons (ae_var 0) (aa_cons (ae_blt call_len al_len (by rfl) z_len boot_len (aa_cons (ae_var 3) aa_nil)) aa_nil)) (npc (npc np0))) sc__law_faulty.nd) (ass_one (as_set 3 (ae_fn o__law_put hr (by rfl) (aa_cons (ae_var 3) (aa_cons (ae_var 5) (aa_cons (ae_sub ae_int (ae_ixd hr.u1 (ae_var 3) (ae_var 5))) aa_nil))) (npc (npc (npc np0)))) sc__law_faulty.nd))) ass_nil))) (ass_one (as_ret (ae_var 3)))))
abbrev s_law : Stmt := topS 25
abbrev n_law : List Str := ["script", "draws", "n", "pools", "key", "s", "distance", "sets", "e", "near", "answers", "due", "one", "told", "bits", "bit", "chosen"]
theorem sc_law : FnScope ["script", "draws", "n", "pools", "key", "s", "distance", "sets", "e", "near", "answers", "due", "one", "told", "bits", "bit", "chosen"] ["script"] (defScope s_law) := ⟨rfl, rfl, rfl, by decide +kernel, rfl, by decide +kernel, by decide +kernel⟩
def b_law : Fs := (mSeq (mSet 1 (mCall none S_law_draws (mAc (mVar 0) (mAc (mC (.int 600)) mA0)))) (mSeq (mSet 2 (mAdd (mC (.int 1)) (mCall (some 0) S_law_take (mAc (mVar 1) (mAc (mCall (some 0) S_law_pick (mAc (mVar 1) (mAc (mLst (mAc (mC (.int 4)) (mAc (mC (.int 7)) (mAc (mC (.int 10)) mA0)))) mA0))) mA0))))) (mSeq (mSet 3 (mCall (some 0) S_law_pools (mAc (mVar 1) (mAc (mVar 2) (mAc (mCall (some 0) S_law_pick (mAc (mVar 1) (mAc (mLst (mAc (mC (.int 3)) (mAc (mC (.int 6)) (mAc (mC (.int 12)) mA0)))) mA0))) mA0))))) (mSeq (mIfS (mAndT (mB (mEq (mCall (some 0) S_law_take (mAc (mVar 1) (mAc (mC (.int 3)) mA0))) (mC (.int 0)))) (mB (mLt (mVar 2) (mC (.int 5))))) (mSet 3 (mMul (mOp gTuple (mAc (mLc (mRg1 (mVar 2)) [4] (tgV 4) mYes (mTup (mAc (mVar 4) mA0))) mA0)) (mC (.int 3)))) mNx) (mSeq (mSet 5 (mCall (some 0) S_law_pick (mAc (mVar 1) (mAc (mLst (mAc (mC (.int 0)) (mAc (mC (.int 1)) (mAc (mC (.int 1)) (mAc (mC (.int 2)) (mAc (mIxd (mLst (mAc (mC (.int 3)) (mAc (mC (.int 2)) mA0))) (mOp gInt (mAc (mGt (mVar 2) (mC (.int 6))) mA0))) mA0)))))) mA0)))) (mSeq (mSet 6 (mCall none S_law_distance (mAc (mVar 3) (mAc (mVar 2) (mAc (mVar 5) mA0))))) (mSeq (mIfS (mNotT (mTr (mCall none (S_law_same 8) (mAc (mCall none S_pool_distance (mAc (mVar 3) (mAc (mVar 2) (mAc (mVar 5) mA0)))) (mAc (mVar 6) mA0))))) (mRet (mC (.bl false))) mNx) (mSeq (mSet 7 (mCall none S_law_few_sets (mAc (mVar 2) (mAc (mVar 5) mA0)))) (mSeq (mFor (mRg1 (mC (.int 4))) (tgV 8) (mSeq (mSet 9 (mCall (some 0) S_law_faulty (mAc (mVar 1) (mAc (mCall none S_law_said (mAc (mVar 3) (mAc (mCall (some 0) S_law_pick (mAc (mVar 1) (mAc (mVar 7) mA0))) mA0))) (mAc (mVar 8) mA0))))) (mFor (mSq (mLst (mAc (mVar 9) (mAc (mCall none S_law_said (mAc (mVar 3) (mAc (mCall (some 0) S_law_set (mAc (mVar 1) (mAc (mVar 2) (mAc (mC (.int 4)) mA0)))) mA0))) mA0)))) (tgV 10) (mSeq (mSet 11 (mLc (mSq (mVar 7)) [12] (tgV 12) (mB (mLe (mCall none S_law_off_k58 (mAc (mCall none S_law_said (mAc (mVar 3) (mAc (mVar 12) mA0))) (mAc (mVar 10) mA0))) (mVar 8))) (mVar 12))) (mSeq (mSet 13 (mCall none S_fitting_with_faults (mAc (mVar 3) (mAc (mVar 2) (mAc (mVar 10) (mAc (mVar 5) (mAc (mVar 8) mA0))))))) (mSeq (mIfS (mNotT (mTr (mCall none (S_law_same 8) (mAc (mVar 13) (mAc (mOp gTuple (mAc (mVar 11) mA0)) mA0))))) (mRet (mC (.bl false))) mNx) (mIfS (mAndT (mOrT (mB (mIsN (mVar 6))) (mB (mGt (mVar 6) (mMul (mC (.int 2)) (mVar 8))))) (mB (mGt (mOp gLen (mAc (mVar 13) mA0)) (mC (.int 1))))) (mRet (mC (.bl false))) mNx))))))) (mSeq (mFor (mSq (mLst (mAc (mAdd (mC (.int 1)) (mCall (some 0) S_law_take (mAc (mVar 1) (mAc (mC (.int 10)) mA0)))) (mAc (mC (.int 10)) mA0)))) (tgV 2) (mSeq (mSet 14 (mLc (mRg1 (mC (.int 4))) [15] (tgV 15) (mB (mGt (mShr (mVar 2) (mVar 15)) (mC (.int 0)))) (mVar 15))) (mSeq (mSet 11 (mOp gTuple (mAc (mLc (mSq (mVar 14)) [15] (tgV 15) mYes (mOp gTuple (mAc (mLc (mRg1 (mVar 2)) [4] (tgV 4) (mB (mEq (mAnd (mShr (mAdd (mVar 4) (mC (.int 1))) (mVar 15)) (mC (.int 1))) (mC (.int 1)))) (mVar 4)) mA0))) mA0))) (mSeq (mIfS (mOrT (mNotT (mTr (mCall none (S_law_same 8) (mAc (mCall none S_bit_pools (mAc (mVar 2) mA0)) (mAc (mVar 11) mA0))))) (mB (mNotN (mCall none S_twin_sets (mAc (mVar 11) (mAc (mVar 2) (mAc (mC (.int 1)) mA0))))))) (mRet (mC (.bl false))) mNx) (mFor (mSq (mLst (mAc (mCall (some 0) S_law_set (mAc (mVar 1) (mAc (mVar 2) (mAc (mC (.int 10)) mA0)))) (mAc (mCall (some 0) S_law_set (mAc (mVar 1) (mAc (mVar 2) (mAc (mC (.int 2)) mA0)))) (mAc (mTup mA0) (mAc (mTrg1 (mVar 2)) (mAc (mTup (mAc (mSub (mVar 2) (mC (.int 1))) mA0)) mA0))))))) (tgV 16) (mSeq (mSet 13 (mCall none S_law_halves (mAc (mVar 2) (mAc (mVar 16) mA0)))) (mSeq (mIfS (mNotT (mTr (mCall none (S_law_same 8) (mAc (mCall none S_found_by_halves (mAc (mVar 2) (mAc (mVar 16) mA0))) (mAc (mTup (mAc (mVar 16) (mAc (mVar 13) mA0))) mA0))))) (mRet (mC (.bl false))) mNx) (mIfS (mB (mGt (mVar 13) (mAdd (mC (.int 1)) (mMul (mMul (mC (.int 2)) (mOp gLen (mAc (mVar 16) mA0))) (mOp gLen (mAc (mLc (mRg1 (mC (.int 5))) [15] (tgV 15) (mB (mLt (mShl (mC (.int 1)) (mVar 15)) (mVar 2))) (mVar 15)) mA0)))))) (mRet (mC (.bl false))) mNx)))))))) (mRet (mC (.bl true)))))))))))))
def m_law : Mir := mDef none 17 b_law
theorem ok_law {P : Program} {w : World} {K : PySem.W.Frag} {mg : Str → Option Value} {base : Heap} {f : Addr} {fd : FuncData} (z_range : mg "range" = none) (z_tuple : mg "tuple" = none) (z_int : mg "int" = none) (z_len : mg "len" = none) (o__law_draws : Ok P w K mg base 8 "_law_draws" ["script", "many"] none 2 S_law_draws) (o__law_take : Ok P w K mg base 8 "_law_take" ["draws", "many"] (some 0) 2 S_law_take) (o__law_pick : Ok P w K mg base 8 "_law_pick" ["draws", "row"] (some 0) 2 S_law_pick) (o__law_pools : Ok P w K mg base 8 "_law_pools" ["draws", "n", "many"] (some 0) 3 S_law_pools) (o__law_distance : Ok P w K mg base 8 "_law_distance" ["pools", "n", "s"] none 3 S_law_distance) (o__law_same : Ok P w K mg base 8 "_law_same" ["actual", "due"] none 2 (S_law_same 8)) (o_pool_distance : Ok P w K mg base 8 "pool_distance" ["pools", "n", "s"] none 3 S_pool_distance) (o__law_few_sets : Ok P w K mg base 8 "_law_few_sets" ["n", "s"] none 2 S_law_few_sets) (o__law_faulty : Ok P w K mg base 8 "_law_faulty" ["draws", "answers", "e"] (some 0) 3 S_law_faulty) (o__law_said : Ok P w K mg base 8 "_law_said" ["pools", "chosen"] none 2 S_law_said) (o__law_set : Ok P w K mg base 8 "_law_set" ["draws", "top", "many"] (some 0) 3 S_law_set) (o__law_off_k58 : Ok P w K mg base 8 "_law_off_k58" ["one", "other"] none 2 S_law_off_k58) (o_fitting_with_faults : Ok P w K mg base 8 "fitting_with_faults" ["pools", "n", "answers", "s", "e"] none 5 S_fitting_with_faults) (o_bit_pools : Ok P w K mg base 8 "bit_pools" ["n"] none 1 S_bit_pools) (o_twin_sets : Ok P w K mg base 8 "twin_sets" ["pools", "n", "s"] none 3 S_twin_sets) (o__law_halves : Ok P w K mg base 8 "_law_halves" ["n", "chosen"] none 2 S_law_halves) (o_found_by_halves : Ok P w K mg base 8 "found_by_halves" ["n", "marked_keys"] none 2 S_found_by_halves) (F : Fun K "law" "law" s_law f fd) : FnOk P w K mg base CX0 9 f fd ["script"] (spM K none 1 m_law) :=
  F.zk (wr := ([1] ++ ([2] ++ ([3] ++ (([3] ++ []) ++ ([5] ++ ([6] ++ (([] ++ []) ++ ([7] ++ (([8] ++ ([9] ++ ([10] ++ ([11] ++ ([13] ++ (([] ++ []) ++ ([] ++ []))))))) ++ (([2] ++ ([14] ++ ([11] ++ (([] ++ []) ++ ([16] ++ ([13] ++ (([] ++ []) ++ ([] ++ [])))))))) ++ []))))))))))) sc_law none (by decide) (fun i h => by cases h) fun cdv A outer s H E hr =>
    (ass_cons (as_set 1 (ae_fn o__law_draws hr (by rfl) (aa_cons (ae_var 0) (aa_cons ae_int aa_nil)) (npc (npc np0))) sc_law.nd) (ass_cons (as_set 2 (ae_add ae_int (ae_fn o__law_take hr (by rfl) (aa_cons (ae_var 1) (aa_cons (ae_fn o__law_pick hr (by rfl) (aa_cons (ae_var 1) (aa_cons (ae_lst (aa_cons ae_int (aa_cons ae_int (aa_cons ae_int aa_nil)))) aa_nil)) (npc (npc np0))) aa_nil)) (npc (npc np0)))) sc_law.nd) (ass_cons (as_set 3 (ae_fn o__law_pools hr (by rfl) (aa_cons (ae_var 1) (aa_cons (ae_var 2) (aa_cons (ae_fn o__law_pick hr (by rfl) (aa_cons (ae_var 1) (aa_cons (ae_lst (aa_cons ae_int (aa_cons ae_int (aa_cons ae_int aa_nil)))) aa_nil)) (npc (npc np0))) aa_nil))) (npc (npc (npc np0)))) sc_law.nd) (ass_cons (as_if (at_w (aw_and (at_cmp (ac_eq hr.u64 (ae_fn o__law_take hr (by rfl) (aa_cons (ae_var 1) (aa_cons ae_int aa_nil)) (npc (npc np0))) ae_int)) (aw_and1 (at_cmp (ac_lt (ae_var 2) ae_int))))) (ass_one (as_set 3 (ae_mul (ae_bty call_tuple_of al_tuple (by rfl) z_tuple boot_tuple (aa_cons (ae_lc [("key", 4)] sc_law.nd (blkOk_by (N := n_law) (sc := defScope s_law) (by decide +kernel)) (ai_rg1 (ae_var 2) (by rfl) z_range) (fun _ _ _ _ _ => (ag_n 4 sc_law.nd)) (fun _ _ _ _ _ => ats_nil) (fun _ _ _ _ _ => (ae_tup (aa_cons (ae_var 4) aa_nil))) gl_v) aa_nil)) ae_int) sc_law.nd)) ass_nil) (ass_cons (as_set 5 (ae_fn o__law_pick hr (by rfl) (aa_cons (ae_var 1) (aa_cons (ae_lst (aa_cons ae_int (aa_cons ae_int (aa_cons ae_int (aa_cons ae_int (aa_cons (ae_ixd hr.u1 (ae_lst (aa_cons ae_int (aa_cons ae_int aa_nil))) (ae_bty call_int1 al_int (by rfl) z_int boot_int (aa_cons (ae_cmp (ac_gt (ae_var 2) ae_int)) aa_nil))) aa_nil)))))) aa_nil)) (npc (npc np0))) sc_law.nd) (ass_cons (as_set 6 (ae_fn o__law_distance hr (by rfl) (aa_cons (ae_var 3) (aa_cons (ae_var 2) (aa_cons (ae_var 5) aa_nil))) (npc (npc (npc np0)))) sc_law.nd) (ass_cons (as_if (at_not (at_tru (ae_fn o__law_same hr (by rfl) (aa_cons (ae_fn o_pool_distance hr (by rfl) (aa_cons (ae_var 3) (aa_cons (ae_var 2) (aa_cons (ae_var 5) aa_nil))) (npc (npc (npc np0)))) (aa_cons (ae_var 6) aa_nil)) (npc (npc np0))))) (ass_one (as_ret ae_bl)) ass_nil) (ass_cons (as_set 7 (ae_fn o__law_few_sets hr (by rfl) (aa_cons (ae_var 2) (aa_cons (ae_var 5) aa_nil)) (npc (npc np0))) sc_law.nd) (ass_cons (as_for PassesOwn.never (ai_rg1 ae_int (by rfl) z_range) (ag_n 8 sc_law.nd) (ass_cons (as_set 9 (ae_fn o__law_faulty hr (by rfl) (aa_cons (ae_var 1) (aa_cons (ae_fn o__law_said hr (by rfl) (aa_cons (ae_var 3) (aa_cons (ae_fn o__law_pick hr (by rfl) (aa_cons (ae_var 1) (aa_cons (ae_var 7) aa_nil)) (npc (npc np0))) aa_nil)) (npc (npc np0))) (aa_cons (ae_var 8) aa_nil))) (npc (npc (npc np0)))) sc_law.nd) (ass_one (as_for PassesOwn.never (ai_seq (ae_lst (aa_cons (ae_var 9) (aa_cons (ae_fn o__law_said hr (by rfl) (aa_cons (ae_var 3) (aa_cons (ae_fn o__law_set hr (by rfl) (aa_cons (ae_var 1) (aa_cons (ae_var 2) (aa_cons ae_int aa_nil))) (npc (npc (npc np0)))) aa_nil)) (npc (npc np0))) aa_nil)))) (ag_n 10 sc_law.nd) (ass_cons (as_setLc 11 [("one", 12)] sc_law.nd (blkOk_by (N := n_law) (sc := defScope s_law) (by decide +kernel)) (ai_seq (ae_var 7)) (fun _ _ _ _ _ => (ag_n 12 sc_law.nd)) (fun _ _ _ _ _ => (ats_one (at_cmp (ac_le (ae_fn o__law_off_k58 hr (by rfl) (aa_cons (ae_fn o__law_said hr (by rfl) (aa_cons (ae_var 3) (aa_cons (ae_var 12) aa_nil)) (npc (npc np0))) (aa_cons (ae_var 10) aa_nil)) (npc (npc np0))) (ae_var 8))))) (fun _ _ _ _ _ => (ae_var 12)) gl_v (by decide +kernel)) (ass_cons (as_set 13 (ae_fn o_fitting_with_faults hr (by rfl) (aa_cons (ae_var 3) (aa_cons (ae_var 2) (aa_cons (ae_var 10) (aa_cons (ae_var 5) (aa_cons (ae_var 8) aa_nil))))) (npc (npc (npc (npc (npc np0)))))) sc_law.nd) (ass_cons (as_if (at_not (at_tru (ae_fn o__law_same hr (by rfl) (aa_cons (ae_var 13) (aa_cons (ae_bty call_tuple_of al_tuple (by rfl) z_tuple boot_tuple (aa_cons (ae_var 11) aa_nil)) aa_nil)) (npc (npc np0))))) (ass_one (as_ret ae_bl)) ass_nil) (ass_one (as_if (at_w (aw_and (at_w (aw_or (at_cmp (ac_isN (ae_var 6))) (aw_or1 (at_cmp (ac_gt (ae_var 6) (ae_mul ae_int (ae_var 8))))))) (aw_and1 (at_cmp (ac_gt (ae_blt call_len al_len (by rfl) z_len boot_len (aa_cons (ae_var 13) aa_nil)) ae_int))))) (ass_one (as_ret ae_bl)) ass_nil))))))))) (ass_cons (as_for PassesOwn.never (ai_seq (ae_lst (aa_cons (ae_add ae_int (ae_fn o__law_take hr (by rfl) (aa_cons (ae_var 1) (aa_cons ae_int aa_nil)) (npc (npc np0)))) (aa_cons ae_int aa_nil)))) (ag_n 2 sc_law.nd) (ass_cons (as_setLc 14 [("bit", 15)] sc_law.nd (blkOk_by (N := n_law) (sc := defScope s_law) (by decide +kernel)) (ai_rg1 ae_int (by rfl) z_range) (fun _ _ _ _ _ => (ag_n 15 sc_law.nd)) (fun _ _ _ _ _ => (ats_one (at_cmp (ac_gt (ae_shr (ae_var 2) (ae_var 15)) ae_int)))) (fun _ _ _ _ _ => (ae_var 15)) gl_v (by decide +kernel)) (ass_cons (as_set 11 (ae_bty call_tuple_of al_tuple (by rfl) z_tuple boot_tuple (aa_cons (ae_lc [("bit", 15)] sc_law.nd (blkOk_by (N := n_law) (sc := defScope s_law) (by decide +kernel)) (ai_seq (ae_var 14)) (fun _ _ _ _ _ => (ag_n 15 sc_law.nd)) (fun _ _ _ _ _ => ats_nil) (fun _ _ _ _ _ => (ae_bty call_tuple_of al_tuple (by rfl) z_tuple boot_tuple (aa_cons (ae_lc [("key", 4)] sc_law.nd (blkOk_by (by rfl)) (ai_rg1 (ae_var 2) (by rfl) z_range) (fun _ _ _ _ _ => (ag_n 4 sc_law.nd)) (fun _ _ _ _ _ => (ats_one (at_cmp (ac_eq hr.u64 (ae_and (ae_shr (ae_add (ae_var 4) ae_int) (ae_var 15)) ae_int) ae_int)))) (fun _ _ _ _ _ => (ae_var 4)) gl_v) aa_nil))) gl_v) aa_nil)) sc_law.nd) (ass_cons (as_if (at_w (aw_or (at_not (at_tru (ae_fn o__law_same hr (by rfl) (aa_cons (ae_fn o_bit_pools hr (by rfl) (aa_cons (ae_var 2) aa_nil) (npc np0)) (aa_cons (ae_var 11) aa_nil)) (npc (npc np0))))) (aw_or1 (at_cmp (ac_notN (ae_fn o_twin_sets hr (by rfl) (aa_cons (ae_var 11) (aa_cons (ae_var 2) (aa_cons ae_int aa_nil))) (npc (npc (npc np0))))))))) (ass_one (as_ret ae_bl)) ass_nil) (ass_one (as_for PassesOwn.never (ai_seq (ae_lst (aa_cons (ae_fn o__law_set hr (by rfl) (aa_cons (ae_var 1) (aa_cons (ae_var 2) (aa_cons ae_int aa_nil))) (npc (npc (npc np0)))) (aa_cons (ae_fn o__law_set hr (by rfl) (aa_cons (ae_var 1) (aa_cons (ae_var 2) (aa_cons ae_int aa_nil))) (npc (npc (npc np0)))) (aa_cons (ae_tup aa_nil) (aa_cons (ae_trg1 (ae_var 2) (by rfl) z_tuple (by rfl) z_range) (aa_cons (ae_tup (aa_cons (ae_sub (ae_var 2) ae_int) aa_nil)) aa_nil))))))) (ag_n 16 sc_law.nd) (ass_cons (as_set 13 (ae_fn o__law_halves hr (by rfl) (aa_cons (ae_var 2) (aa_cons (ae_var 16) aa_nil)) (npc (npc np0))) sc_law.nd) (ass_cons (as_if (at_not (at_tru (ae_fn o__law_same hr (by rfl) (aa_cons (ae_fn o_found_by_halves hr (by rfl) (aa_cons (ae_var 2) (aa_cons (ae_var 16) aa_nil)) (npc (npc np0))) (aa_cons (ae_tup (aa_cons (ae_var 16) (aa_cons (ae_var 13) aa_nil))) aa_nil)) (npc (npc np0))))) (ass_one (as_ret ae_bl)) ass_nil) (ass_one (as_if (at_cmp (ac_gt (ae_var 13) (ae_add ae_int (ae_mul (ae_mul ae_int (ae_blt call_len al_len (by rfl) z_len boot_len (aa_cons (ae_var 16) aa_nil))) (ae_blt call_len al_len (by rfl) z_len boot_len (aa_cons (ae_lc [("bit", 15)] sc_law.nd (blkOk_by (N := n_law) (sc := defScope s_law) (by decide +kernel)) (ai_rg1 ae_int (by rfl) z_range) (fun _ _ _ _ _ => (ag_n 15 sc_law.nd)) (fun _ _ _ _ _ => (ats_one (at_cmp (ac_lt (ae_shl ae_int (ae_var 15)) (ae_var 2))))) (fun _ _ _ _ _ => (ae_var 15)) gl_v) aa_nil)))))) (ass_one (as_ret ae_bl)) ass_nil)))))))))) (ass_one (as_ret ae_bl))))))))))))
end
end K53
namespace K53
noncomputable section
open PySem PySem.Spec PyProof.Rows L2 Zk Zk.Bc Zk.Bf Zk.Bg Zk.Bh
theorem pick_int (s : List Int) (ns : List Int) (h : ns ≠ []) : ∃ v ∈ ns, S_law_pick [dr s, .lst (ns.map D.int)] = some (.int v, 9, dr s.dropLast) := by
  refine ⟨pk s ns h, pk_mem, ?_⟩
  have := pick_eq (d := .lst (ns.map D.int)) (.inl rfl) s (by simpa using h) (by rw [pk_map (h := h)]; rfl)
  rw [pk_map (h := h)] at this
  exact this
theorem pl_tN6 {xs : List Nat} (h : xs.length ≤ 1000) : pl 6 (tN xs) = true := by
  have h2 : xs.length < 16777216 := by omega
  simp [pl, tN, List.all_map, h2]
theorem pl_tNs {L : List (List Nat)} (h : L.length ≤ 1000) (h2 : ∀ c ∈ L, c.length ≤ 1000) : pl 7 (.tup (L.map tN)) = true := by
  have hl : L.length < 16777216 := by omega
  simp only [pl, List.length_map, hl, decide_true, Bool.true_and, List.all_map, List.all_eq_true]
  simp only [Bool.and_true, List.all_eq_true]
  exact fun c hc => pl_tN6 (h2 c hc)
theorem law_true (ns : List Int) (hn : ns.length ≤ 63) : ∃ m o, m_law [.scr ns] = some (.bl true, m, o) := by
  have go : W (m_law [.scr ns]) fun r => ∃ m o, r = (.bl true, m, o) := by
    unfold m_law b_law
    rw [W_mDef]
    (refine Zk.W_seqK fun Kq hKq => ?_; simp (disch := first | assumption | (simp; done) | omega) [dem1, ent0_def]; refine ((draws_spec ns 600 (by decide) (by decide))).mono ?_; rintro _ ⟨s, rfl⟩; simp (disch := first | assumption | (simp; done) | omega) [dem1, ent0_def]; refine hKq _ ?_; clear hKq Kq)
    obtain ⟨v, hv, p1⟩ := pick_int s [4, 7, 10] (by decide)
    have p1 : S_law_pick [dr s, .lst [.int 4, .int 7, .int 10]] = some (.int v, 9, dr s.dropLast) := p1
    obtain ⟨vn, hvn, v1, v2⟩ : ∃ vn : Nat, v = (vn : Int) ∧ 0 < vn ∧ vn ≤ 10 := by
      simp only [List.mem_cons, List.not_mem_nil, or_false] at hv
      exact ⟨v.toNat, by omega, by omega, by omega⟩
    rw [hvn] at p1
    obtain ⟨w, hw, t1⟩ := tk s.dropLast vn v1
    (refine Zk.W_seqE (E1 := ?wE245) ?wa245 ?wb245; (case wa245 => (simp (disch := first | assumption | (simp; done) | omega) [p1, t1, uni, dem1, -W_pickL]; exact rfl)))
    obtain ⟨n, hnw⟩ : ∃ n : Nat, n = w + 1 := ⟨_, rfl⟩
    have en : 1 + (w : Int) = (n : Int) := by omega
    rw [en]
    have n0 : 0 < n := by omega
    have n1 : n < 11 := by omega
    generalize s.dropLast.dropLast = s at *
    obtain ⟨v, hv, p1⟩ := pick_int s [3, 6, 12] (by decide)
    have p1 : S_law_pick [dr s, .lst [.int 3, .int 6, .int 12]] = some (.int v, 9, dr s.dropLast) := p1
    obtain ⟨many, hvn, v2⟩ : ∃ vn : Nat, v = (vn : Int) ∧ vn ≤ 12 := by
      simp only [List.mem_cons, List.not_mem_nil, or_false] at hv
      exact ⟨v.toNat, by omega, by omega⟩
    rw [hvn] at p1
    generalize s.dropLast = s1 at *
    (refine Zk.W_seqK fun Kq hKq => ?_; simp (disch := first | assumption | (simp; done) | omega) [dem1, p1, uni, dem1, -W_pickL]; refine ((pools_W s1 (n := n) (many := many) n1 n0 (by omega))).mono ?_; rintro _ ⟨ps, s, rfl, hp⟩; simp (disch := first | assumption | (simp; done) | omega) [dem1, p1, uni, dem1, -W_pickL]; refine hKq _ ?_; clear hKq Kq)
    obtain ⟨w4, hw4, t4⟩ := tk s 3 (by decide)
    have t4 : S_law_take [dr s, .int 3] = some (.int (w4 : Int), 9, dr s.dropLast) := t4
    have rn : rgOk (n : Int) := ⟨by omega, by omega⟩
    refine W_seqS (γ := List (List Nat) × Nat) (fun c => [(1, some (dr s.dropLast, 9)), (3, some (pD c.1, c.2))]) (fun c => small c.1) (fun K hK => ?_) ?_
    · simp only [sets, List.set_cons_succ, List.set_cons_zero] at hK
      by_cases c : w4 = 0
      · by_cases c5 : n < 5
        · have c52 : (n : Int) < 5 := by omega
          simp (disch := first | assumption | (simp; done) | omega) [t4, c, c52, rn, rng0, W_lc0, dem1, -List.map_map]
          refine W_lcY (xs := List.range n) (ι := fun b : Nat => D.int (b : Int)) (fun k => tN [k]) (fun _ => imm_tN _) (by rw [sizeL, List.length_range]; omega) (fun k _ => ?_) fun acc ha hu => ?_
          · simp (disch := first | assumption | (simp; done) | omega) [tN]
          · have e1 : acc.map (·.1) = ((List.range n).map fun k => [k]).map tN := by rw [ha, List.map_map]; rfl
            obtain ⟨T, hT⟩ : ∃ T, T = (List.range n).map fun k => [k] := ⟨_, rfl⟩
            rw [← hT] at e1
            have tl : T.length = n := by rw [hT, List.length_map, List.length_range]
            have tm : ∀ p ∈ T, p.length ≤ 100 := fun p hp => by
              rw [hT] at hp
              obtain ⟨k, _, rfl⟩ := List.mem_map.mp hp
              simp
            have i1 := imms_tNs T
            have gm : gMul [.tup (T.map tN), .int 3] = some (pD (T ++ (T ++ T)), 0) := by
              have ne : (T.map tN).isEmpty = false := by
                cases T with
                | nil => simp at tl; omega
                | cons a T => rfl
              unfold gMul
              simp only
              rw [if_pos ⟨ne, by decide, by decide, by rw [List.length_map]; omega⟩]
              show some (D.tup (T.map tN ++ (T.map tN ++ (T.map tN ++ []))), 0) = _
              rw [List.append_nil, ← List.map_append, ← List.map_append]
              rfl
            have i2 := imm_pD (T ++ (T ++ T))
            simp (disch := first | assumption | (simp; done) | omega) [e1, hu, i1, gm, i2, -List.map_map, -List.map_append]
            exact hK (T ++ (T ++ T), _) ⟨by simp; omega, fun p hp => by
              simp only [List.mem_append] at hp
              rcases hp with h | h | h <;> exact tm p h⟩
        · have c52 : ¬ (n : Int) < 5 := by omega
          simp (disch := first | assumption | (simp; done) | omega) [t4, c, c52, dem1]
          exact hK (ps, _) hp
      · have c2 : ¬ (w4 : Int) = 0 := by omega
        simp (disch := first | assumption | (simp; done) | omega) [t4, c, c2, dem1]
        exact hK (ps, _) hp
    clear hp
    rintro ⟨ps, l4⟩ hp
    have hp : small ps := hp
    simp only [sets, List.set_cons_succ, List.set_cons_zero]
    generalize s.dropLast = s at *
    obtain ⟨m, p1, hs, hns⟩ : ∃ m : Nat, S_law_pick [dr s, .lst [.int 0, .int 1, .int 1, .int 2, .int (if n < 7 then 3 else 2)]] = some (.int (m : Int), 9, dr s.dropLast) ∧ m < 4 ∧ (m < 3 ∨ n < 7) := by
      obtain ⟨v, hv, p1⟩ := pick_int s [0, 1, 1, 2, if n < 7 then 3 else 2] (by simp)
      simp only [List.mem_cons, List.not_mem_nil, or_false] at hv
      refine ⟨v.toNat, ?_, ?_, ?_⟩
      · have : ((v.toNat : Nat) : Int) = v := by split at hv <;> omega
        rw [this]
        exact p1
      · split at hv <;> omega
      · split at hv <;> omega
    have ip := imm_pD ps
    have gx : ∀ b : Bool, b = decide (6 < (n : Int)) → (match b with | true => (1 : Int) | false => 0) = if n < 7 then 0 else 1 := fun b hb => by
      subst hb
      by_cases c : n < 7
      · have : ¬ (6 : Int) < (n : Int) := by omega
        simp [c, this]
      · have : (6 : Int) < (n : Int) := by omega
        simp [c, this]
    refine W_seqO (J := fun E => E = [some (.scr ns, 0), some (dr s.dropLast, 9), some (.int (n : Int), 9), some (pD ps, l4), none, some (.int (m : Int), 9), none, none, none, none, none, none, none, none, none, none, none]) ?_ ?_
    · intro J' hJ
      by_cases c : n < 7
      · have c2 : ¬ (6 : Int) < (n : Int) := by omega
        rw [if_pos c] at p1
        simp (disch := first | assumption | (simp; done) | omega) [p1, uni, c2, gInt, dem1, -W_pickL]
        exact hJ _ rfl
      · have c2 : (6 : Int) < (n : Int) := by omega
        rw [if_neg c] at p1
        simp (disch := first | assumption | (simp; done) | omega) [p1, uni, c2, gInt, dem1, -W_pickL]
        exact hJ _ rfl
    rintro _ rfl
    generalize s.dropLast = s2 at *
    obtain ⟨o, lo1, hlw, dw⟩ := distance_W (n := n) (s := m) n1 hs hns hp
    obtain ⟨o2, lo2, hlw2, dw2⟩ := law_distance_W (n := n) (s := m) n1 hs hp
    rw [Lw.one hlw2 hlw] at dw2
    have ido : imm (dO o) = true := by cases o <;> rfl
    have pdo : pl 7 (dO o) = true := by cases o <;> rfl
    have fl := few_len n1 hs
    have fm : ∀ c ∈ few n m, c.length ≤ 100 := fun c hc => by
      obtain ⟨m1, m2, m3, m4⟩ := few_mem n1 hs hc
      omega
    (refine Zk.W_seqE (E1 := ?wE246) ?wa246 ?wb246; (case wa246 => (simp (disch := first | assumption | (simp; done) | omega) [dw2, ip, ido, dem1]; exact rfl)))
    (refine Zk.W_seqE (E1 := ?wE247) ?wa247 ?wb247; (case wa247 => (simp (disch := first | assumption | (simp; done) | omega) [dw, W_same pdo, ip, ido, dem1]; exact rfl)))
    have fw := few_sets_W (n := n) (s := m) n1 hs
    have iF := imms_tNs (few n m)
    (refine Zk.W_seqE (E1 := ?wE248) ?wa248 ?wb248; (case wa248 => (simp (disch := first | assumption | (simp; done) | omega) [fw, iF, dem1]; exact rfl)))
    have r4 : rgOk 4 := ⟨by decide, by decide⟩
    (refine Zk.W_forN ?wE337 4 [8, 9, 10, 11, 13] (fun (c : List Int × Nat) _ => [(1, some (dr c.1, 9)), (7, some (.lst ((few n m).map tN), c.2))]) (fun _ _ => True) ((s2, 9) : List Int × Nat) ?wa337 ?wb337 ?_ ?_ ?_; (case wa337 => (simp (disch := first | assumption | (simp; done) | omega) [r4]; exact rfl)); (case wb337 => (simp (disch := first | assumption | (simp; done) | omega) [Zk.sets, r4])))
    · trivial
    · rintro ⟨s, l7⟩ e I' he _ hI
      simp only [Zk.AllU, Zk.sets, List.set_cons_succ, List.set_cons_zero, List.set_nil] at *
      intro u8 u9 u10 u11 u13
      refine W_tgV.mpr ⟨by simp, ?_⟩
      obtain ⟨cf, hcf, p1⟩ := pick_tN s (few n m) (few_ne n m)
      have icf := imm_tN cf
      have sd1 := said_W hp (ks := cf) (fm _ hcf)
      have pz := hp.1
      have a1 : ∀ x ∈ ans ps cf, x ≤ 1 := fun x hx => by
        unfold ans at hx
        obtain ⟨p, _, rfl⟩ := List.mem_map.mp hx
        split <;> omega
      (refine Zk.W_seqK fun Kq hKq => ?_; simp (disch := first | assumption | (simp; done) | omega) [dem1, p1, iF, icf, sd1, ip, imm_tN, dem1, -W_pickL, -List.map_map]; refine ((faulty_W s.dropLast (as := ans ps cf) (e := e) (by rw [ans_len]; omega) a1 (by omega))).mono ?_; rintro _ ⟨near, l9, s, rfl, hnear⟩; simp (disch := first | assumption | (simp; done) | omega) [dem1, p1, iF, icf, sd1, ip, imm_tN, dem1, -W_pickL, -List.map_map]; refine hKq _ ?_; clear hKq Kq)
      rw [ans_len] at hnear
      obtain ⟨_, e1, one, s', rfl, o1, o2', o3, _⟩ := law_set_W s n 4 n0 (by decide)
      have e1 : S_law_set [dr s, .int (n : Int), .int 4] = some (tN one, 9, dr s') := e1
      have ione := imm_tN one
      have inr := imm_tN near
      have sd2 := said_W hp (ks := one) (by omega)
      have ia2 := imm_tN (ans ps one)
      refine W_end ?_
      (refine Zk.W_forS ?wE339 [near, ans ps one] tN [9, 10, 11, 13] (fun (l : Nat) _ => [(7, some (.lst ((few n m).map tN), l))]) (fun _ _ => True) l7 ?wa339 ?wb339 ?_ ?_ ?_; (case wa339 => (simp (disch := first | assumption | (simp; done) | omega) [e1, sd2, ip, ione, inr, ia2, uni, dem1]; exact rfl)); (case wb339 => (simp (disch := first | assumption | (simp; done) | omega) [Zk.sets, e1, sd2, ip, ione, inr, ia2, uni, dem1])))
      · trivial
      · intro l7 a as q I2 ea _ hI2
        simp only [Zk.AllU, Zk.sets, List.set_cons_succ, List.set_cons_zero, List.set_nil] at *
        intro u9 u10 u11 u13
        refine W_tgV.mpr ⟨by simp, ?_⟩
        have al : as.length = ps.length := by
          have hc : as ∈ [near, ans ps one] := by rw [ea]; simp
          simp only [List.mem_cons, List.not_mem_nil, or_false] at hc
          rcases hc with rfl | rfl
          · exact hnear
          · exact ans_len _ _
        have ias := imm_tN as
        refine W_seqS (γ := Nat) (fun l => [(7, some (.lst ((few n m).map tN), l)), (11, some (.lst ((fitE ps as e (few n m)).map tN), 9))]) (fun _ => True) (fun K hK => ?_) ?_
        · simp only [sets, List.set_cons_succ, List.set_cons_zero] at hK
          simp (disch := first | assumption | (simp; done) | omega) [W_lc0, iF, dem1, -List.map_map]
          refine W_lcX (xs := few n m) (ι := tN) (fun c => decide (off (ans ps c) as ≤ e)) tN (fun _ => imm_tN _) (by rw [sizeL]; omega) (fun c hc => ?_) fun acc ha hu => ?_
          · have sw := said_W hp (ks := c) (fm c hc)
            have ow := law_off_W (a := ans ps c) (b := as) (by rw [ans_len]; omega) (by rw [ans_len, al])
            have i3 := imm_tN (ans ps c)
            by_cases d : off (ans ps c) as ≤ e
            · have d2 : (off (ans ps c) as : Int) ≤ (e : Int) := by omega
              simp (disch := first | assumption | (simp; done) | omega) [sw, ow, i3, d, d2, ip, ias, dem1, imm_tN]
            · have d2 : ¬ (off (ans ps c) as : Int) ≤ (e : Int) := by omega
              simp (disch := first | assumption | (simp; done) | omega) [sw, ow, i3, d, d2, ip, ias, dem1, imm_tN]
          · have e1 : acc.map (·.1) = (fitE ps as e (few n m)).map tN := ha
            simp (disch := first | assumption | (simp; done) | omega) [e1, hu, -List.map_map]
            exact hK _ trivial
        intro l7 _
        simp only [sets, List.set_cons_succ, List.set_cons_zero]
        have ft := faults_W (as := as) (e := e) n1 hs hp
        have ifl := imms_tNs (fitE ps as e (few n m))
        have fll : (fitE ps as e (few n m)).length ≤ 1000 := Nat.le_trans (List.length_filter_le _ _) (by omega)
        have pfl : pl 7 (.tup ((fitE ps as e (few n m)).map tN)) = true := pl_tNs fll fun c hc => Nat.le_trans (fm c (List.mem_filter.mp hc).1) (by decide)
        have gl : gLen [.tup ((fitE ps as e (few n m)).map tN)] = some (.int ((fitE ps as e (few n m)).length : Int), 9) := by rw [gLen_tup, List.length_map]
        (refine Zk.W_seqE (E1 := ?wE249) ?wa249 ?wb249; (case wa249 => (simp (disch := first | assumption | (simp; done) | omega) [ft, ip, ias, ifl, dem1, -List.map_map]; exact rfl)))
        (refine Zk.W_seqE (E1 := ?wE250) ?wa250 ?wb250; (case wa250 => (simp (disch := first | assumption | (simp; done) | omega) [ifl, W_same pfl, dem1, -List.map_map]; exact rfl)))
        refine W_end ?_
        cases o with
        | none =>
          have of1 := one_fits (e := e) al hlw (fun d h => by cases h)
          have c2 : ¬ (1 : Int) < ((fitE ps as e (few n m)).length : Int) := by omega
          have dn : dO none = .non := rfl
          simp (disch := first | assumption | (simp; done) | omega) [dn, gIsN, gl, c2, ifl, -List.map_map]
          apply hI2 _ trivial
        | some d =>
          have ds : dO (some d) = iN d := rfl
          have e2 : ((2 : Int) * (e : Int)) = ((2 * e : Nat) : Int) := by omega
          by_cases cd : 2 * e < d
          · have of1 := one_fits (e := e) al hlw (fun d' h => by cases h; exact cd)
            have c2 : ¬ (1 : Int) < ((fitE ps as e (few n m)).length : Int) := by omega
            have c3 : (2 : Int) * (e : Int) < (d : Int) := by omega
            simp (disch := first | assumption | (simp; done) | omega) [ds, gIsN, gl, c2, c3, ifl, -List.map_map]
            apply hI2 _ trivial
          · have c3 : ¬ (2 : Int) * (e : Int) < (d : Int) := by omega
            simp (disch := first | assumption | (simp; done) | omega) [ds, gIsN, gl, c3, ifl, -List.map_map]
            apply hI2 _ trivial
      intro l _
      simp only [Zk.AllU, Zk.sets, List.set_cons_succ, List.set_cons_zero, List.set_nil] at *
      intro u9 u10 u11 u13
      simp (disch := first | assumption | (simp; done) | omega) [-List.map_map]
      apply hI (s', l) trivial
    rintro ⟨s, l7⟩ _
    simp only [Zk.AllU, Zk.sets, List.set_cons_succ, List.set_cons_zero, List.set_nil] at *
    intro u8 u9 u10 u11 u13
    obtain ⟨w, hw, t1⟩ := tk s 10 (by decide)
    have t1 : S_law_take [dr s, .int 10] = some (.int (w : Int), 9, dr s.dropLast) := t1
    have ea : (1 : Int) + (w : Int) = (w : Int) + 1 := by omega
    generalize s.dropLast = s at *
    (refine Zk.W_forS ?wE340 [w + 1, 10] (fun b : Nat => D.int (b : Int)) [2, 11, 13, 14, 16] (fun (s : List Int) _ => [(1, some (dr s, 9))]) (fun _ _ => True) s ?wa340 ?wb340 ?_ ?_ ?_; (case wa340 => (simp (disch := first | assumption | (simp; done) | omega) [t1, ea, uni, dem1]; exact rfl)); (case wb340 => (simp (disch := first | assumption | (simp; done) | omega) [Zk.sets, t1, ea, uni, dem1])))
    · trivial
    · intro s a n q I' ea _ hI
      simp only [Zk.AllU, Zk.sets, List.set_cons_succ, List.set_cons_zero, List.set_nil] at *
      intro u2 u11 u13 u14 u16
      have hn : n = w + 1 ∨ n = 10 := by
        have hc : n ∈ [w + 1, 10] := by rw [ea]; simp
        simpa using hc
      have n0 : 0 < n := by omega
      have n1 : n < 11 := by omega
      clear hn ea
      refine W_tgV.mpr ⟨by simp, ?_⟩
      have r4 : rgOk 4 := ⟨by decide, by decide⟩
      have rn : rgOk (n : Int) := ⟨by omega, by omega⟩
      obtain ⟨b1, b2, b3⟩ := ckB n n1
      refine W_seqS (γ := Unit) (fun _ => [(14, some (.lst ((bitsL n).map iN), 9))]) (fun _ => True) (fun K hK => ?_) ?_
      · simp only [sets, List.set_cons_succ, List.set_cons_zero] at hK ⊢
        have e4 : rng 0 4 = (List.range 4).map fun b : Nat => D.int (b : Int) := rng0 4
        simp (disch := first | assumption | (simp; done) | omega) [r4, e4, W_lc0, -List.map_map]
        refine W_lcX (xs := List.range 4) (ι := fun b : Nat => D.int (b : Int)) (fun b => decide (0 < n / 2 ^ b)) iN (fun _ => rfl) (by simp [sizeL]) (fun b _ => ?_) fun acc ha hu => ?_
        · have ed : (n : Int) / 2 ^ b = ((n / 2 ^ b : Nat) : Int) := by
            rw [Int.natCast_ediv, Int.natCast_pow]; rfl
          generalize n / 2 ^ b = z at *
          by_cases c : 0 < z
          · have c2 : (0 : Int) < (z : Int) := by omega
            simp (disch := first | assumption | (simp; done) | omega) [ed, c, c2]
          · have c2 : ¬ (0 : Int) < (z : Int) := by omega
            simp (disch := first | assumption | (simp; done) | omega) [ed, c, c2]
        · have e1 : acc.map (·.1) = (bitsL n).map iN := ha
          simp (disch := first | assumption | (simp; done) | omega) [e1, hu, -List.map_map]
          exact hK () trivial
      intro _ _
      simp only [sets, List.set_cons_succ, List.set_cons_zero]
      have ib : imms ((bitsL n).map iN) = true := imms_map' (fun _ => rfl) _
      refine W_seqS (γ := Nat) (fun l => [(11, some (pD (bitP n), 9)), (14, some (.lst ((bitsL n).map iN), l))]) (fun _ => True) (fun K hK => ?_) ?_
      · simp only [sets, List.set_cons_succ, List.set_cons_zero] at hK
        simp (disch := first | assumption | (simp; done) | omega) [ib, W_lc0, -List.map_map]
        refine W_lcY (xs := bitsL n) (ι := fun b : Nat => D.int (b : Int)) (fun b => tN ((List.range n).filter fun x => decide ((x + 1) / 2 ^ b % 2 = 1))) (fun _ => imm_tN _) (by rw [sizeL]; omega) (fun b hb => ?_) fun acc ha hu => ?_
        · simp (disch := first | assumption | (simp; done) | omega) [rn, rng0, W_lc0, -List.map_map]
          refine W_lcX (xs := List.range n) (ι := fun b : Nat => D.int (b : Int)) (fun x => decide ((x + 1) / 2 ^ b % 2 = 1)) iN (fun _ => rfl) (by rw [sizeL, List.length_range]; omega) (fun x _ => ?_) fun acc ha hu => ?_
          · have bi := bit_is x b
            have m2 : (x + 1) / 2 ^ b % 2 = 0 ∨ (x + 1) / 2 ^ b % 2 = 1 := by omega
            rw [Int.toNat_natCast] at bi
            rcases m2 with m2 | m2
            · rw [m2] at bi
              simp (disch := first | assumption | (simp; done) | omega) [bi, m2]
            · rw [m2] at bi
              simp (disch := first | assumption | (simp; done) | omega) [bi, m2]
          · simp (disch := first | assumption | (simp; done) | omega) [ha, hu, -List.map_map]
            rfl
        · have e1 : acc.map (·.1) = (bitP n).map tN := by rw [ha]; unfold bitP; rw [List.map_map]; rfl
          have ib := imms_tNs (bitP n)
          simp (disch := first | assumption | (simp; done) | omega) [e1, hu, ib, -List.map_map]
          exact hK _ trivial
      intro l14 _
      simp only [sets, List.set_cons_succ, List.set_cons_zero]
      have hb : small (bitP n) := ⟨by unfold bitP; rw [List.length_map]; omega, fun p hp => by
        unfold bitP at hp
        obtain ⟨b, _, rfl⟩ := List.mem_map.mp hp
        exact Nat.le_trans (List.length_filter_le _ _) (by rw [List.length_range]; omega)⟩
      have ipb := imm_pD (bitP n)
      have bw := bit_pools_W n1
      have ppb : pl 7 (pD (bitP n)) = true := pl_tNs (Nat.le_trans hb.1 (by decide)) fun c hc => Nat.le_trans (hb.2 c hc) (by decide)
      obtain ⟨b, lb, hbst, tw⟩ := twin_W (n := n) (s := 1) n1 (by decide) hb
      have bn : b = none := best_one hbst (show Best _ _ none from fun i hi => ckT n n1 n0 i (by simpa using hi))
      rw [bn] at tw
      have tw : S_twin_sets [pD (bitP n), .int (n : Int), .int 1] = some (.non, lb, .non) := tw
      (refine Zk.W_seqE (E1 := ?wE251) ?wa251 ?wb251; (case wa251 => (simp (disch := first | assumption | (simp; done) | omega) [bw, W_same ppb, ipb, tw, gNotN, dem1]; exact rfl)))
      obtain ⟨_, e1, one, s1, rfl, o1, o2', o3, o4⟩ := law_set_W s n 10 n0 (by decide)
      have e1 : S_law_set [dr s, .int (n : Int), .int 10] = some (tN one, 9, dr s1) := e1
      obtain ⟨_, e2, two, s2, rfl, q1, q2, q3, q4⟩ := law_set_W s1 n 2 n0 (by decide)
      have e2 : S_law_set [dr s1, .int (n : Int), .int 2] = some (tN two, 9, dr s2) := e2
      have gt : gTrg [.int (n : Int)] = some (tN (List.range n), 0) := by
        have ok : RgOk 0 (n : Int) := ⟨by decide, by decide, by omega, by omega, by omega⟩
        unfold gTrg
        simp only
        rw [if_pos ok, Int.toNat_natCast, rng0]
        rfl
      have es : (n : Int) - 1 = ((n - 1 : Nat) : Int) := by omega
      have i1 := imm_tN one
      have i2 := imm_tN two
      have irg := imm_tN (List.range n)
      have t0 : tN [] = D.tup [] := rfl
      have t1 : tN [n - 1] = D.tup [.int ((n - 1 : Nat) : Int)] := rfl
      refine W_end ?_
      (refine Zk.W_forS ?wE341 [one, two, [], List.range n, [n - 1]] tN [13, 16] (fun (_ : Unit) _ => []) (fun _ _ => True) () ?wa341 ?wb341 ?_ ?_ ?_; (case wa341 => (simp (disch := first | assumption | (simp; done) | omega) [e1, e2, gt, es, i1, i2, irg, t0, t1, uni, dem1]; exact rfl)); (case wb341 => (simp (disch := first | assumption | (simp; done) | omega) [Zk.sets, e1, e2, gt, es, i1, i2, irg, t0, t1, uni, dem1])))
      · trivial
      · intro _ a ch q I2 ec _ hI2
        simp only [Zk.AllU, Zk.sets, List.set_cons_succ, List.set_cons_zero, List.set_nil] at *
        intro u13 u16
        refine W_tgV.mpr ⟨by simp, ?_⟩
        obtain ⟨cs, cm, cl⟩ : ch.Pairwise (· < ·) ∧ (∀ k ∈ ch, k < n) ∧ ch.length ≤ 10 := by
          have hc : ch ∈ [one, two, [], List.range n, [n - 1]] := by rw [ec]; simp
          simp only [List.mem_cons, List.not_mem_nil, or_false] at hc
          rcases hc with rfl | rfl | rfl | rfl | rfl
          · exact ⟨(o4.and o1).imp fun h => by omega, o2', o3⟩
          · exact ⟨(q4.and q1).imp fun h => by omega, q2, by omega⟩
          · exact ⟨.nil, by simp, by simp⟩
          · exact ⟨List.pairwise_lt_range, fun k hk => List.mem_range.mp hk, by rw [List.length_range]; omega⟩
          · exact ⟨by simp, fun k hk => by rw [List.mem_singleton.mp hk]; omega, by simp⟩
        clear ec
        obtain ⟨l1, lh⟩ := law_halves_W (ch := ch) (by omega) cs cm n0 n1
        obtain ⟨l2, hh⟩ := halves_W (ch := ch) (by omega) cs cm n0 n1
        obtain ⟨r1, r2, r3⟩ := run_end cs cm n0 n1
        rw [r2] at hh
        generalize (run ch n 20).a = A at *
        have ich := imm_tN ch
        have p6 := pl_tN6 (xs := ch) (by omega)
        have pp : pl 7 (.tup [tN ch, .int (A : Int)]) = true := by simp [pl, p6]
        (refine Zk.W_seqE (E1 := ?wE252) ?wa252 ?wb252; (case wa252 => (simp (disch := first | assumption | (simp; done) | omega) [lh, ich, dem1]; exact rfl)))
        (refine Zk.W_seqE (E1 := ?wE253) ?wa253 ?wb253; (case wa253 => (simp (disch := first | assumption | (simp; done) | omega) [hh, ich, W_same pp, dem1]; exact rfl)))
        have gl : gLen [tN ch] = some (.int (ch.length : Int), 9) := by unfold tN; rw [gLen_tup, List.length_map]
        have b1 : ((2 : Int) * (ch.length : Int)).natAbs < big := big0 (i := 2 * ch.length) (by omega)
        have e5 : rng 0 5 = (List.range 5).map fun b : Nat => D.int (b : Int) := rng0 5
        have r5 : rgOk 5 := ⟨by decide, by decide⟩
        refine W_end ?_
        simp (disch := first | assumption | (simp; done) | omega) [gl, ich, r5, e5, W_lc0, -List.map_map]
        refine W_lcX (xs := List.range 5) (ι := fun b : Nat => D.int (b : Int)) (fun b => decide (2 ^ b < n)) iN (fun _ => rfl) (by simp [sizeL]) (fun b hb => ?_) fun acc ha hu => ?_
        · have hb := List.mem_range.mp hb
          have eb : (2 : Int) ^ b = ((2 ^ b : Nat) : Int) := by rw [Int.natCast_pow]; rfl
          have b6 : (b : Int) ≤ 1000000 := by omega
          by_cases c : 2 ^ b < n
          · have c2 : ((2 ^ b : Nat) : Int) < (n : Int) := by omega
            rw [← eb] at c2
            simp (disch := first | assumption | (simp; done) | omega) [c, c2, b6]
          · have c2 : ¬ ((2 ^ b : Nat) : Int) < (n : Int) := by omega
            rw [← eb] at c2
            simp (disch := first | assumption | (simp; done) | omega) [c, c2, b6]
        · have al : acc.length = L2 n := by
            have := congrArg List.length ha
            rw [List.length_map, List.length_map] at this
            exact this
          have l5 : L2 n ≤ 5 := Nat.le_trans (List.length_filter_le _ _) (by rw [List.length_range]; omega)
          have b2 : ((L2 n : Nat) : Int).natAbs < big := big0 (i := ((L2 n : Nat) : Int)) (by omega)
          have gl2 : gLen [.lst (acc.map (·.1))] = some (.int ((L2 n : Nat) : Int), 9) := by rw [gLen_lst, List.length_map, al]
          have e7 : (2 : Int) * (ch.length : Int) * ((L2 n : Nat) : Int) = ((2 * ch.length * L2 n : Nat) : Int) := by
            rw [Int.natCast_mul, Int.natCast_mul]; rfl
          have c9 : ¬ (1 : Int) + (2 : Int) * (ch.length : Int) * ((L2 n : Nat) : Int) < (A : Int) := by rw [e7]; omega
          simp (disch := first | assumption | (simp; done) | omega) [gl2, hu, b1, b2, c9]
          apply hI2 () trivial
      intro _ _
      simp only [Zk.AllU, Zk.sets, List.set_cons_succ, List.set_cons_zero, List.set_nil] at *
      intro u13 u16
      simp (disch := first | assumption | (simp; done) | omega) []
      apply hI _ trivial
    intro s _
    simp only [Zk.AllU, Zk.sets, List.set_cons_succ, List.set_cons_zero, List.set_nil] at *
    intro u2 u11 u13 u14 u16
    simp (disch := first | assumption | (simp; done) | omega) []
  obtain ⟨r, e, m, o, rfl⟩ := go
  exact ⟨m, o, e⟩
end
end K53
namespace K53
noncomputable section
open PySem PySem.Spec PyProof.Rows L2 Zk
set_option maxHeartbeats 0 in
theorem all_mk {l : PySem.W.OpenLaw} {w : World} {K : PySem.W.Frag} {h : Heap} {mg : Str → Option Value} {fa : Addr} (X : K.In h) (G : h.Ns mainGlobals mg) (hfa : mg "law" = some (.ref fa))
    {f0 : Addr} {od0 an0 : Option Addr} {sl0 : Array (Option Value)} {oc0 kV0 dc0 pm0 cd0 ct0 : Value}
    (a0 : PySem.W.nsIn K mainGlobals "_law_draws" = some (some (.ref f0))) (l0 : K.lookup f0 = some ⟨oc0, od0, .func (PySem.W.fnOf "_law_draws" "_law_draws" (defArgs s__law_draws) (defBody s__law_draws) (defScope s__law_draws) .none kV0 dc0 pm0 an0 cd0 ct0), sl0⟩) (c0 : PySem.W.codeIn K cd0 "_law_draws" = true) (k0 : PySem.W.keepIn K (.ref f0) = true)
    {f1 : Addr} {od1 an1 : Option Addr} {sl1 : Array (Option Value)} {oc1 kV1 dc1 pm1 cd1 ct1 : Value}
    (a1 : PySem.W.nsIn K mainGlobals "_law_take" = some (some (.ref f1))) (l1 : K.lookup f1 = some ⟨oc1, od1, .func (PySem.W.fnOf "_law_take" "_law_take" (defArgs s__law_take) (defBody s__law_take) (defScope s__law_take) .none kV1 dc1 pm1 an1 cd1 ct1), sl1⟩) (c1 : PySem.W.codeIn K cd1 "_law_take" = true) (k1 : PySem.W.keepIn K (.ref f1) = true)
    {f2 : Addr} {od2 an2 : Option Addr} {sl2 : Array (Option Value)} {oc2 kV2 dc2 pm2 cd2 ct2 : Value}
    (a2 : PySem.W.nsIn K mainGlobals "_law_pick" = some (some (.ref f2))) (l2 : K.lookup f2 = some ⟨oc2, od2, .func (PySem.W.fnOf "_law_pick" "_law_pick" (defArgs s__law_pick) (defBody s__law_pick) (defScope s__law_pick) .none kV2 dc2 pm2 an2 cd2 ct2), sl2⟩) (c2 : PySem.W.codeIn K cd2 "_law_pick" = true) (k2 : PySem.W.keepIn K (.ref f2) = true)
    {f3 : Addr} {od3 an3 : Option Addr} {sl3 : Array (Option Value)} {oc3 kV3 dc3 pm3 cd3 ct3 : Value}
    (a3 : PySem.W.nsIn K mainGlobals "_law_half" = some (some (.ref f3))) (l3 : K.lookup f3 = some ⟨oc3, od3, .func (PySem.W.fnOf "_law_half" "_law_half" (defArgs s__law_half) (defBody s__law_half) (defScope s__law_half) .none kV3 dc3 pm3 an3 cd3 ct3), sl3⟩) (c3 : PySem.W.codeIn K cd3 "_law_half" = true) (k3 : PySem.W.keepIn K (.ref f3) = true)
    {f4 : Addr} {od4 an4 : Option Addr} {sl4 : Array (Option Value)} {oc4 kV4 dc4 pm4 cd4 ct4 : Value}
    (a4 : PySem.W.nsIn K mainGlobals "_law_set" = some (some (.ref f4))) (l4 : K.lookup f4 = some ⟨oc4, od4, .func (PySem.W.fnOf "_law_set" "_law_set" (defArgs s__law_set) (defBody s__law_set) (defScope s__law_set) .none kV4 dc4 pm4 an4 cd4 ct4), sl4⟩) (c4 : PySem.W.codeIn K cd4 "_law_set" = true) (k4 : PySem.W.keepIn K (.ref f4) = true)
    {f5 : Addr} {od5 an5 : Option Addr} {sl5 : Array (Option Value)} {oc5 kV5 dc5 pm5 cd5 ct5 : Value}
    (a5 : PySem.W.nsIn K mainGlobals "_law_pools" = some (some (.ref f5))) (l5 : K.lookup f5 = some ⟨oc5, od5, .func (PySem.W.fnOf "_law_pools" "_law_pools" (defArgs s__law_pools) (defBody s__law_pools) (defScope s__law_pools) .none kV5 dc5 pm5 an5 cd5 ct5), sl5⟩) (c5 : PySem.W.codeIn K cd5 "_law_pools" = true) (k5 : PySem.W.keepIn K (.ref f5) = true)
    {f6 : Addr} {od6 an6 : Option Addr} {sl6 : Array (Option Value)} {oc6 kV6 dc6 pm6 cd6 ct6 : Value}
    (a6 : PySem.W.nsIn K mainGlobals "_law_few_sets" = some (some (.ref f6))) (l6 : K.lookup f6 = some ⟨oc6, od6, .func (PySem.W.fnOf "_law_few_sets" "_law_few_sets" (defArgs s__law_few_sets) (defBody s__law_few_sets) (defScope s__law_few_sets) .none kV6 dc6 pm6 an6 cd6 ct6), sl6⟩) (c6 : PySem.W.codeIn K cd6 "_law_few_sets" = true) (k6 : PySem.W.keepIn K (.ref f6) = true)
    {f7 : Addr} {od7 an7 : Option Addr} {sl7 : Array (Option Value)} {oc7 kV7 dc7 pm7 cd7 ct7 : Value}
    (a7 : PySem.W.nsIn K mainGlobals "_law_said" = some (some (.ref f7))) (l7 : K.lookup f7 = some ⟨oc7, od7, .func (PySem.W.fnOf "_law_said" "_law_said" (defArgs s__law_said) (defBody s__law_said) (defScope s__law_said) .none kV7 dc7 pm7 an7 cd7 ct7), sl7⟩) (c7 : PySem.W.codeIn K cd7 "_law_said" = true) (k7 : PySem.W.keepIn K (.ref f7) = true)
    {f8 : Addr} {od8 an8 : Option Addr} {sl8 : Array (Option Value)} {oc8 kV8 dc8 pm8 cd8 ct8 : Value}
    (a8 : PySem.W.nsIn K mainGlobals "_law_off_k58" = some (some (.ref f8))) (l8 : K.lookup f8 = some ⟨oc8, od8, .func (PySem.W.fnOf "_law_off_k58" "_law_off_k58" (defArgs s__law_off_k58) (defBody s__law_off_k58) (defScope s__law_off_k58) .none kV8 dc8 pm8 an8 cd8 ct8), sl8⟩) (c8 : PySem.W.codeIn K cd8 "_law_off_k58" = true) (k8 : PySem.W.keepIn K (.ref f8) = true)
    {f9 : Addr} {od9 an9 : Option Addr} {sl9 : Array (Option Value)} {oc9 kV9 dc9 pm9 cd9 ct9 : Value}
    (a9 : PySem.W.nsIn K mainGlobals "_law_distance" = some (some (.ref f9))) (l9 : K.lookup f9 = some ⟨oc9, od9, .func (PySem.W.fnOf "_law_distance" "_law_distance" (defArgs s__law_distance) (defBody s__law_distance) (defScope s__law_distance) .none kV9 dc9 pm9 an9 cd9 ct9), sl9⟩) (c9 : PySem.W.codeIn K cd9 "_law_distance" = true) (k9 : PySem.W.keepIn K (.ref f9) = true)
    {f10 : Addr} {od10 an10 : Option Addr} {sl10 : Array (Option Value)} {oc10 kV10 dc10 pm10 cd10 ct10 : Value}
    (a10 : PySem.W.nsIn K mainGlobals "_law_same" = some (some (.ref f10))) (l10 : K.lookup f10 = some ⟨oc10, od10, .func (PySem.W.fnOf "_law_same" "_law_same" (defArgs s__law_same) (defBody s__law_same) (defScope s__law_same) .none kV10 dc10 pm10 an10 cd10 ct10), sl10⟩) (c10 : PySem.W.codeIn K cd10 "_law_same" = true) (k10 : PySem.W.keepIn K (.ref f10) = true)
    {f11 : Addr} {od11 an11 : Option Addr} {sl11 : Array (Option Value)} {oc11 kV11 dc11 pm11 cd11 ct11 : Value}
    (a11 : PySem.W.nsIn K mainGlobals "small_sets" = some (some (.ref f11))) (l11 : K.lookup f11 = some ⟨oc11, od11, .func (PySem.W.fnOf "small_sets" "small_sets" (defArgs s_small_sets) (defBody s_small_sets) (defScope s_small_sets) .none kV11 dc11 pm11 an11 cd11 ct11), sl11⟩) (c11 : PySem.W.codeIn K cd11 "small_sets" = true) (k11 : PySem.W.keepIn K (.ref f11) = true)
    {f12 : Addr} {od12 an12 : Option Addr} {sl12 : Array (Option Value)} {oc12 kV12 dc12 pm12 cd12 ct12 : Value}
    (a12 : PySem.W.nsIn K mainGlobals "pool_answers" = some (some (.ref f12))) (l12 : K.lookup f12 = some ⟨oc12, od12, .func (PySem.W.fnOf "pool_answers" "pool_answers" (defArgs s_pool_answers) (defBody s_pool_answers) (defScope s_pool_answers) .none kV12 dc12 pm12 an12 cd12 ct12), sl12⟩) (c12 : PySem.W.codeIn K cd12 "pool_answers" = true) (k12 : PySem.W.keepIn K (.ref f12) = true)
    {f13 : Addr} {od13 an13 : Option Addr} {sl13 : Array (Option Value)} {oc13 kV13 dc13 pm13 cd13 ct13 : Value}
    (a13 : PySem.W.nsIn K mainGlobals "unlike_places" = some (some (.ref f13))) (l13 : K.lookup f13 = some ⟨oc13, od13, .func (PySem.W.fnOf "unlike_places" "unlike_places" (defArgs s_unlike_places) (defBody s_unlike_places) (defScope s_unlike_places) .none kV13 dc13 pm13 an13 cd13 ct13), sl13⟩) (c13 : PySem.W.codeIn K cd13 "unlike_places" = true) (k13 : PySem.W.keepIn K (.ref f13) = true)
    {f14 : Addr} {od14 an14 : Option Addr} {sl14 : Array (Option Value)} {oc14 kV14 dc14 pm14 cd14 ct14 : Value}
    (a14 : PySem.W.nsIn K mainGlobals "pool_distance" = some (some (.ref f14))) (l14 : K.lookup f14 = some ⟨oc14, od14, .func (PySem.W.fnOf "pool_distance" "pool_distance" (defArgs s_pool_distance) (defBody s_pool_distance) (defScope s_pool_distance) .none kV14 dc14 pm14 an14 cd14 ct14), sl14⟩) (c14 : PySem.W.codeIn K cd14 "pool_distance" = true) (k14 : PySem.W.keepIn K (.ref f14) = true)
    {f15 : Addr} {od15 an15 : Option Addr} {sl15 : Array (Option Value)} {oc15 kV15 dc15 pm15 cd15 ct15 : Value}
    (a15 : PySem.W.nsIn K mainGlobals "_law_put" = some (some (.ref f15))) (l15 : K.lookup f15 = some ⟨oc15, od15, .func (PySem.W.fnOf "_law_put" "_law_put" (defArgs s__law_put) (defBody s__law_put) (defScope s__law_put) .none kV15 dc15 pm15 an15 cd15 ct15), sl15⟩) (c15 : PySem.W.codeIn K cd15 "_law_put" = true) (k15 : PySem.W.keepIn K (.ref f15) = true)
    {f16 : Addr} {od16 an16 : Option Addr} {sl16 : Array (Option Value)} {oc16 kV16 dc16 pm16 cd16 ct16 : Value}
    (a16 : PySem.W.nsIn K mainGlobals "_law_faulty" = some (some (.ref f16))) (l16 : K.lookup f16 = some ⟨oc16, od16, .func (PySem.W.fnOf "_law_faulty" "_law_faulty" (defArgs s__law_faulty) (defBody s__law_faulty) (defScope s__law_faulty) .none kV16 dc16 pm16 an16 cd16 ct16), sl16⟩) (c16 : PySem.W.codeIn K cd16 "_law_faulty" = true) (k16 : PySem.W.keepIn K (.ref f16) = true)
    {f17 : Addr} {od17 an17 : Option Addr} {sl17 : Array (Option Value)} {oc17 kV17 dc17 pm17 cd17 ct17 : Value}
    (a17 : PySem.W.nsIn K mainGlobals "fitting_with_faults" = some (some (.ref f17))) (l17 : K.lookup f17 = some ⟨oc17, od17, .func (PySem.W.fnOf "fitting_with_faults" "fitting_with_faults" (defArgs s_fitting_with_faults) (defBody s_fitting_with_faults) (defScope s_fitting_with_faults) .none kV17 dc17 pm17 an17 cd17 ct17), sl17⟩) (c17 : PySem.W.codeIn K cd17 "fitting_with_faults" = true) (k17 : PySem.W.keepIn K (.ref f17) = true)
    {f18 : Addr} {od18 an18 : Option Addr} {sl18 : Array (Option Value)} {oc18 kV18 dc18 pm18 cd18 ct18 : Value}
    (a18 : PySem.W.nsIn K mainGlobals "bit_pools" = some (some (.ref f18))) (l18 : K.lookup f18 = some ⟨oc18, od18, .func (PySem.W.fnOf "bit_pools" "bit_pools" (defArgs s_bit_pools) (defBody s_bit_pools) (defScope s_bit_pools) .none kV18 dc18 pm18 an18 cd18 ct18), sl18⟩) (c18 : PySem.W.codeIn K cd18 "bit_pools" = true) (k18 : PySem.W.keepIn K (.ref f18) = true)
    {f19 : Addr} {od19 an19 : Option Addr} {sl19 : Array (Option Value)} {oc19 kV19 dc19 pm19 cd19 ct19 : Value}
    (a19 : PySem.W.nsIn K mainGlobals "twin_sets" = some (some (.ref f19))) (l19 : K.lookup f19 = some ⟨oc19, od19, .func (PySem.W.fnOf "twin_sets" "twin_sets" (defArgs s_twin_sets) (defBody s_twin_sets) (defScope s_twin_sets) .none kV19 dc19 pm19 an19 cd19 ct19), sl19⟩) (c19 : PySem.W.codeIn K cd19 "twin_sets" = true) (k19 : PySem.W.keepIn K (.ref f19) = true)
    {f20 : Addr} {od20 an20 : Option Addr} {sl20 : Array (Option Value)} {oc20 kV20 dc20 pm20 cd20 ct20 : Value}
    (a20 : PySem.W.nsIn K mainGlobals "_law_halves" = some (some (.ref f20))) (l20 : K.lookup f20 = some ⟨oc20, od20, .func (PySem.W.fnOf "_law_halves" "_law_halves" (defArgs s__law_halves) (defBody s__law_halves) (defScope s__law_halves) .none kV20 dc20 pm20 an20 cd20 ct20), sl20⟩) (c20 : PySem.W.codeIn K cd20 "_law_halves" = true) (k20 : PySem.W.keepIn K (.ref f20) = true)
    {f21 : Addr} {od21 an21 : Option Addr} {sl21 : Array (Option Value)} {oc21 kV21 dc21 pm21 cd21 ct21 : Value}
    (a21 : PySem.W.nsIn K mainGlobals "found_by_halves" = some (some (.ref f21))) (l21 : K.lookup f21 = some ⟨oc21, od21, .func (PySem.W.fnOf "found_by_halves" "found_by_halves" (defArgs s_found_by_halves) (defBody s_found_by_halves) (defScope s_found_by_halves) .none kV21 dc21 pm21 an21 cd21 ct21), sl21⟩) (c21 : PySem.W.codeIn K cd21 "found_by_halves" = true) (k21 : PySem.W.keepIn K (.ref f21) = true)
    {f22 : Addr} {od22 an22 : Option Addr} {sl22 : Array (Option Value)} {oc22 kV22 dc22 pm22 cd22 ct22 : Value}
    (a22 : PySem.W.nsIn K mainGlobals "law" = some (some (.ref f22))) (l22 : K.lookup f22 = some ⟨oc22, od22, .func (PySem.W.fnOf "law" "law" (defArgs s_law) (defBody s_law) (defScope s_law) .none kV22 dc22 pm22 an22 cd22 ct22), sl22⟩) (c22 : PySem.W.codeIn K cd22 "law" = true) (k22 : PySem.W.keepIn K (.ref f22) = true)
    (y_int : PySem.W.nsIn K mainGlobals "int" = some none)
    (y_len : PySem.W.nsIn K mainGlobals "len" = some none)
    (y_list : PySem.W.nsIn K mainGlobals "list" = some none)
    (y_range : PySem.W.nsIn K mainGlobals "range" = some none)
    (y_sorted : PySem.W.nsIn K mainGlobals "sorted" = some none)
    (y_tuple : PySem.W.nsIn K mainGlobals "tuple" = some none)
    (y_isinstance : PySem.W.nsIn K mainGlobals "isinstance" = some none)
    (y_bool : PySem.W.nsIn K mainGlobals "bool" = some none)
    (y_str : PySem.W.nsIn K mainGlobals "str" = some none)
    (y_min : PySem.W.nsIn K mainGlobals "min" = some none)
    (y_combinations : PySem.W.nsIn K mainGlobals "combinations" = some (some (.type "itertools.combinations")))
    (y_any : PySem.W.nsIn K mainGlobals "any" = some none)
    (y_zip : PySem.W.nsIn K mainGlobals "zip" = some none)
    (y_enumerate : PySem.W.nsIn K mainGlobals "enumerate" = some none)
    : ∃ fd : FuncData, (∀ (s : Shared) (v : Value), BindsTo s fd ⟨[v], []⟩ [("script", v)]) ∧ ∀ base : Heap, K.In base → base.Ns mainGlobals mg → FnOk l.prog w K mg base CX0 9 fa fd ["script"] (spM K none 1 m_law) := by
  have e := hfa.symm.trans (PySem.W.mg_of X G a22)
  cases e
  have F0 := fun_mk (st := s__law_draws) l0 c0 k0
  have F1 := fun_mk (st := s__law_take) l1 c1 k1
  have F2 := fun_mk (st := s__law_pick) l2 c2 k2
  have F3 := fun_mk (st := s__law_half) l3 c3 k3
  have F4 := fun_mk (st := s__law_set) l4 c4 k4
  have F5 := fun_mk (st := s__law_pools) l5 c5 k5
  have F6 := fun_mk (st := s__law_few_sets) l6 c6 k6
  have F7 := fun_mk (st := s__law_said) l7 c7 k7
  have F8 := fun_mk (st := s__law_off_k58) l8 c8 k8
  have F9 := fun_mk (st := s__law_distance) l9 c9 k9
  have F10 := fun_mk (st := s__law_same) l10 c10 k10
  have F11 := fun_mk (st := s_small_sets) l11 c11 k11
  have F12 := fun_mk (st := s_pool_answers) l12 c12 k12
  have F13 := fun_mk (st := s_unlike_places) l13 c13 k13
  have F14 := fun_mk (st := s_pool_distance) l14 c14 k14
  have F15 := fun_mk (st := s__law_put) l15 c15 k15
  have F16 := fun_mk (st := s__law_faulty) l16 c16 k16
  have F17 := fun_mk (st := s_fitting_with_faults) l17 c17 k17
  have F18 := fun_mk (st := s_bit_pools) l18 c18 k18
  have F19 := fun_mk (st := s_twin_sets) l19 c19 k19
  have F20 := fun_mk (st := s__law_halves) l20 c20 k20
  have F21 := fun_mk (st := s_found_by_halves) l21 c21 k21
  have F22 := fun_mk (st := s_law) l22 c22 k22
  have b0 := F0.binds (ps := ["script", "many"]) fun _ _ _ _ _ _ us hl => match us, hl with | [_, _], _ => rfl
  have b1 := F1.binds (ps := ["draws", "many"]) fun _ _ _ _ _ _ us hl => match us, hl with | [_, _], _ => rfl
  have b2 := F2.binds (ps := ["draws", "row"]) fun _ _ _ _ _ _ us hl => match us, hl with | [_, _], _ => rfl
  have b3 := F3.binds (ps := ["draws", "row"]) fun _ _ _ _ _ _ us hl => match us, hl with | [_, _], _ => rfl
  have b4 := F4.binds (ps := ["draws", "top", "many"]) fun _ _ _ _ _ _ us hl => match us, hl with | [_, _, _], _ => rfl
  have b5 := F5.binds (ps := ["draws", "n", "many"]) fun _ _ _ _ _ _ us hl => match us, hl with | [_, _, _], _ => rfl
  have b6 := F6.binds (ps := ["n", "s"]) fun _ _ _ _ _ _ us hl => match us, hl with | [_, _], _ => rfl
  have b7 := F7.binds (ps := ["pools", "chosen"]) fun _ _ _ _ _ _ us hl => match us, hl with | [_, _], _ => rfl
  have b8 := F8.binds (ps := ["one", "other"]) fun _ _ _ _ _ _ us hl => match us, hl with | [_, _], _ => rfl
  have b9 := F9.binds (ps := ["pools", "n", "s"]) fun _ _ _ _ _ _ us hl => match us, hl with | [_, _, _], _ => rfl
  have b10 := F10.binds (ps := ["actual", "due"]) fun _ _ _ _ _ _ us hl => match us, hl with | [_, _], _ => rfl
  have b11 := F11.binds (ps := ["n", "s"]) fun _ _ _ _ _ _ us hl => match us, hl with | [_, _], _ => rfl
  have b12 := F12.binds (ps := ["pools", "marked_keys"]) fun _ _ _ _ _ _ us hl => match us, hl with | [_, _], _ => rfl
  have b13 := F13.binds (ps := ["one", "other"]) fun _ _ _ _ _ _ us hl => match us, hl with | [_, _], _ => rfl
  have b14 := F14.binds (ps := ["pools", "n", "s"]) fun _ _ _ _ _ _ us hl => match us, hl with | [_, _, _], _ => rfl
  have b15 := F15.binds (ps := ["row", "k", "thing"]) fun _ _ _ _ _ _ us hl => match us, hl with | [_, _, _], _ => rfl
  have b16 := F16.binds (ps := ["draws", "answers", "e"]) fun _ _ _ _ _ _ us hl => match us, hl with | [_, _, _], _ => rfl
  have b17 := F17.binds (ps := ["pools", "n", "answers", "s", "e"]) fun _ _ _ _ _ _ us hl => match us, hl with | [_, _, _, _, _], _ => rfl
  have b18 := F18.binds (ps := ["n"]) fun _ _ _ _ _ _ us hl => match us, hl with | [_], _ => rfl
  have b19 := F19.binds (ps := ["pools", "n", "s"]) fun _ _ _ _ _ _ us hl => match us, hl with | [_, _, _], _ => rfl
  have b20 := F20.binds (ps := ["n", "chosen"]) fun _ _ _ _ _ _ us hl => match us, hl with | [_, _], _ => rfl
  have b21 := F21.binds (ps := ["n", "marked_keys"]) fun _ _ _ _ _ _ us hl => match us, hl with | [_, _], _ => rfl
  have z_int := PySem.W.mg_none_of X G y_int
  have z_len := PySem.W.mg_none_of X G y_len
  have z_list := PySem.W.mg_none_of X G y_list
  have z_range := PySem.W.mg_none_of X G y_range
  have z_sorted := PySem.W.mg_none_of X G y_sorted
  have z_tuple := PySem.W.mg_none_of X G y_tuple
  have z_isinstance := PySem.W.mg_none_of X G y_isinstance
  have z_bool := PySem.W.mg_none_of X G y_bool
  have z_str := PySem.W.mg_none_of X G y_str
  have z_min := PySem.W.mg_none_of X G y_min
  have z_combinations := PySem.W.mg_of X G y_combinations
  have z_any := PySem.W.mg_none_of X G y_any
  have z_zip := PySem.W.mg_none_of X G y_zip
  have z_enumerate := PySem.W.mg_none_of X G y_enumerate
  refine ⟨PySem.W.fnOf "law" "law" (defArgs s_law) (defBody s_law) (defScope s_law) .none kV22 dc22 pm22 an22 cd22 ct22, fun s v => .of_eq rfl, fun base _ _ => ?_⟩
  have o__law_draws : Ok l.prog w K mg base 1 "_law_draws" ["script", "many"] none 2 m__law_draws := ⟨f0, _, ok__law_draws z_int z_len z_list z_range F0, PySem.W.mg_of X G a0, F0.kp, b0⟩
  have o__law_take : Ok l.prog w K mg base 1 "_law_take" ["draws", "many"] (some 0) 2 m__law_take := ⟨f1, _, ok__law_take z_len z_int F1, PySem.W.mg_of X G a1, F1.kp, b1⟩
  have o__law_pick : Ok l.prog w K mg base 2 "_law_pick" ["draws", "row"] (some 0) 2 m__law_pick := ⟨f2, _, ok__law_pick z_len (o__law_take.mono (by decide)) F2, PySem.W.mg_of X G a2, F2.kp, b2⟩
  have o__law_half : Ok l.prog w K mg base 2 "_law_half" ["draws", "row"] (some 0) 2 m__law_half := ⟨f3, _, ok__law_half (o__law_take.mono (by decide)) F3, PySem.W.mg_of X G a3, F3.kp, b3⟩
  have o__law_set : Ok l.prog w K mg base 2 "_law_set" ["draws", "top", "many"] (some 0) 3 m__law_set := ⟨f4, _, ok__law_set z_range z_sorted z_tuple (o__law_take.mono (by decide)) F4, PySem.W.mg_of X G a4, F4.kp, b4⟩
  have o__law_pools : Ok l.prog w K mg base 3 "_law_pools" ["draws", "n", "many"] (some 0) 3 m__law_pools := ⟨f5, _, ok__law_pools z_range z_list z_tuple (o__law_take.mono (by decide)) (o__law_half.mono (by decide)) (o__law_set.mono (by decide)) (o__law_pick.mono (by decide)) F5, PySem.W.mg_of X G a5, F5.kp, b5⟩
  have o__law_few_sets : Ok l.prog w K mg base 1 "_law_few_sets" ["n", "s"] none 2 m__law_few_sets := ⟨f6, _, ok__law_few_sets z_range z_len F6, PySem.W.mg_of X G a6, F6.kp, b6⟩
  have o__law_said : Ok l.prog w K mg base 1 "_law_said" ["pools", "chosen"] none 2 m__law_said := ⟨f7, _, ok__law_said z_int z_tuple F7, PySem.W.mg_of X G a7, F7.kp, b7⟩
  have o__law_off_k58 : Ok l.prog w K mg base 1 "_law_off_k58" ["one", "other"] none 2 m__law_off_k58 := ⟨f8, _, ok__law_off_k58 z_range z_len F8, PySem.W.mg_of X G a8, F8.kp, b8⟩
  have o__law_distance : Ok l.prog w K mg base 2 "_law_distance" ["pools", "n", "s"] none 3 m__law_distance := ⟨f9, _, ok__law_distance z_range z_len (o__law_few_sets.mono (by decide)) (o__law_said.mono (by decide)) (o__law_off_k58.mono (by decide)) F9, PySem.W.mg_of X G a9, F9.kp, b9⟩
  have o__law_same : Ok l.prog w K mg base 8 "_law_same" ["actual", "due"] none 2 (m__law_same 8) := ⟨f10, _, ok__law_same z_list z_tuple z_isinstance z_len z_range z_bool z_int z_str F10 (PySem.W.mg_of X G a10) b10 8, PySem.W.mg_of X G a10, F10.kp, b10⟩
  have o_small_sets : Ok l.prog w K mg base 1 "small_sets" ["n", "s"] none 2 m_small_sets := ⟨f11, _, ok_small_sets z_range z_min z_combinations F11, PySem.W.mg_of X G a11, F11.kp, b11⟩
  have o_pool_answers : Ok l.prog w K mg base 1 "pool_answers" ["pools", "marked_keys"] none 2 m_pool_answers := ⟨f12, _, ok_pool_answers z_any z_tuple F12, PySem.W.mg_of X G a12, F12.kp, b12⟩
  have o_unlike_places : Ok l.prog w K mg base 1 "unlike_places" ["one", "other"] none 2 m_unlike_places := ⟨f13, _, ok_unlike_places z_zip z_len F13, PySem.W.mg_of X G a13, F13.kp, b13⟩
  have o_pool_distance : Ok l.prog w K mg base 2 "pool_distance" ["pools", "n", "s"] none 3 m_pool_distance := ⟨f14, _, ok_pool_distance z_min z_combinations (o_small_sets.mono (by decide)) (o_pool_answers.mono (by decide)) (o_unlike_places.mono (by decide)) F14, PySem.W.mg_of X G a14, F14.kp, b14⟩
  have o__law_put : Ok l.prog w K mg base 1 "_law_put" ["row", "k", "thing"] none 3 m__law_put := ⟨f15, _, ok__law_put  F15, PySem.W.mg_of X G a15, F15.kp, b15⟩
  have o__law_faulty : Ok l.prog w K mg base 2 "_law_faulty" ["draws", "answers", "e"] (some 0) 3 m__law_faulty := ⟨f16, _, ok__law_faulty z_range z_len (o__law_take.mono (by decide)) (o__law_put.mono (by decide)) F16, PySem.W.mg_of X G a16, F16.kp, b16⟩
  have o_fitting_with_faults : Ok l.prog w K mg base 2 "fitting_with_faults" ["pools", "n", "answers", "s", "e"] none 5 m_fitting_with_faults := ⟨f17, _, ok_fitting_with_faults z_tuple (o_small_sets.mono (by decide)) (o_unlike_places.mono (by decide)) (o_pool_answers.mono (by decide)) F17, PySem.W.mg_of X G a17, F17.kp, b17⟩
  have o_bit_pools : Ok l.prog w K mg base 1 "bit_pools" ["n"] none 1 m_bit_pools := ⟨f18, _, ok_bit_pools z_range z_tuple F18, PySem.W.mg_of X G a18, F18.kp, b18⟩
  have o_twin_sets : Ok l.prog w K mg base 2 "twin_sets" ["pools", "n", "s"] none 3 m_twin_sets := ⟨f19, _, ok_twin_sets z_enumerate (o_small_sets.mono (by decide)) (o_pool_answers.mono (by decide)) F19, PySem.W.mg_of X G a19, F19.kp, b19⟩
  have o__law_halves : Ok l.prog w K mg base 1 "_law_halves" ["n", "chosen"] none 2 m__law_halves := ⟨f20, _, ok__law_halves z_range z_len F20, PySem.W.mg_of X G a20, F20.kp, b20⟩
  have o_found_by_halves : Ok l.prog w K mg base 1 "found_by_halves" ["n", "marked_keys"] none 2 m_found_by_halves := ⟨f21, _, ok_found_by_halves z_tuple z_range z_any z_len F21, PySem.W.mg_of X G a21, F21.kp, b21⟩
  exact ok_law z_range z_tuple z_int z_len (o__law_draws.mono (by decide)) (o__law_take.mono (by decide)) (o__law_pick.mono (by decide)) (o__law_pools.mono (by decide)) (o__law_distance.mono (by decide)) (o__law_same.mono (by decide)) (o_pool_distance.mono (by decide)) (o__law_few_sets.mono (by decide)) (o__law_faulty.mono (by decide)) (o__law_said.mono (by decide)) (o__law_set.mono (by decide)) (o__law_off_k58.mono (by decide)) (o_fitting_with_faults.mono (by decide)) (o_bit_pools.mono (by decide)) (o_twin_sets.mono (by decide)) (o__law_halves.mono (by decide)) (o_found_by_halves.mono (by decide)) F22
end
end K53
open PySem PySem.W PyProof.Rows
set_option maxHeartbeats 0 in
theorem PySem.Challenge.cw_sketchkeep_k53_pools_with_faults_and_hal_holds : PySem.Challenge.rw_sketchkeep_k53_pools_with_faults_and_hal.Holds := by
  w_on; o_law; k_head; (case hw => w_witness2)
  k_fill
  refine L2.walk_of (l := PySem.Challenge.rw_sketchkeep_k53_pools_with_faults_and_hal) (n := 63) (k := 9) (x := "script") (CX := fun _ => L2.CX0) (sp := fun w => Zk.spM _ none 1 K53.m_law) rfl (by decide) rfl ⟨rfl, by decide, by decide⟩ (fun w h Y => PySem.W.kIn_of Y) ?F (fun _ _ a ns hl hO hS => Zk.law_sp (fun ns hl => K53.law_true ns hl) hl hO hS) (fun _ _ _ _ _ h => h)
  case F =>
    intro w mg fa h KX G hmg
    refine' K53.all_mk KX G hmg ?a0 ?l0 ?c0 ?k0 ?a1 ?l1 ?c1 ?k1 ?a2 ?l2 ?c2 ?k2 ?a3 ?l3 ?c3 ?k3 ?a4 ?l4 ?c4 ?k4 ?a5 ?l5 ?c5 ?k5 ?a6 ?l6 ?c6 ?k6 ?a7 ?l7 ?c7 ?k7 ?a8 ?l8 ?c8 ?k8 ?a9 ?l9 ?c9 ?k9 ?a10 ?l10 ?c10 ?k10 ?a11 ?l11 ?c11 ?k11 ?a12 ?l12 ?c12 ?k12 ?a13 ?l13 ?c13 ?k13 ?a14 ?l14 ?c14 ?k14 ?a15 ?l15 ?c15 ?k15 ?a16 ?l16 ?c16 ?k16 ?a17 ?l17 ?c17 ?k17 ?a18 ?l18 ?c18 ?k18 ?a19 ?l19 ?c19 ?k19 ?a20 ?l20 ?c20 ?k20 ?a21 ?l21 ?c21 ?k21 ?a22 ?l22 ?c22 ?k22 ?y_int ?y_len ?y_list ?y_range ?y_sorted ?y_tuple ?y_isinstance ?y_bool ?y_str ?y_min ?y_combinations ?y_any ?y_zip ?y_enumerate
    (case a0 => k_is); (case l0 => k_is); (case c0 => k_is); (case k0 => k_is); (case a1 => k_is); (case l1 => k_is); (case c1 => k_is); (case k1 => k_is); (case a2 => k_is); (case l2 => k_is); (case c2 => k_is); (case k2 => k_is); (case a3 => k_is); (case l3 => k_is); (case c3 => k_is); (case k3 => k_is); (case a4 => k_is); (case l4 => k_is); (case c4 => k_is); (case k4 => k_is); (case a5 => k_is); (case l5 => k_is); (case c5 => k_is); (case k5 => k_is); (case a6 => k_is); (case l6 => k_is); (case c6 => k_is); (case k6 => k_is); (case a7 => k_is); (case l7 => k_is); (case c7 => k_is); (case k7 => k_is); (case a8 => k_is); (case l8 => k_is); (case c8 => k_is); (case k8 => k_is); (case a9 => k_is); (case l9 => k_is); (case c9 => k_is); (case k9 => k_is); (case a10 => k_is); (case l10 => k_is); (case c10 => k_is); (case k10 => k_is); (case a11 => k_is); (case l11 => k_is); (case c11 => k_is); (case k11 => k_is); (case a12 => k_is); (case l12 => k_is); (case c12 => k_is); (case k12 => k_is); (case a13 => k_is); (case l13 => k_is); (case c13 => k_is); (case k13 => k_is); (case a14 => k_is); (case l14 => k_is); (case c14 => k_is); (case k14 => k_is); (case a15 => k_is); (case l15 => k_is); (case c15 => k_is); (case k15 => k_is); (case a16 => k_is); (case l16 => k_is); (case c16 => k_is); (case k16 => k_is); (case a17 => k_is); (case l17 => k_is); (case c17 => k_is); (case k17 => k_is); (case a18 => k_is); (case l18 => k_is); (case c18 => k_is); (case k18 => k_is); (case a19 => k_is); (case l19 => k_is); (case c19 => k_is); (case k19 => k_is); (case a20 => k_is); (case l20 => k_is); (case c20 => k_is); (case k20 => k_is); (case a21 => k_is); (case l21 => k_is); (case c21 => k_is); (case k21 => k_is); (case a22 => k_is); (case l22 => k_is); (case c22 => k_is); (case k22 => k_is); (case y_int => k_is); (case y_len => k_is); (case y_list => k_is); (case y_range => k_is); (case y_sorted => k_is); (case y_tuple => k_is); (case y_isinstance => k_is); (case y_bool => k_is); (case y_str => k_is); (case y_min => k_is); (case y_combinations => k_is); (case y_any => k_is); (case y_zip => k_is); (case y_enumerate => k_is)

