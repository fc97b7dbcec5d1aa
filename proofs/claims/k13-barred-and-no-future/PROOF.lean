import PyProof.Rows.All
import Wide.All
import OpenK.AllK
import Wide.FinOn
import HandS.ForMost
import HandS.Exc
import HandS.ExcOwn
import HandS.WordsExc
import HandS.CallSlots
import HandS.Wide
import HandS.Flow
import HandS.TupAny
import HandS.Walk
import KE.DataEq
import HandS.ExcInit
import HandS.ExcIs
import HandS.ExcField
import KE.GoesEnum
import HandS.Defaults
import HandS.TupMul
import HandS.TupLe
import KE.DataCmp
import HandS.IsInst
import KE.SortData
import PyProof.ReprReads
import PyProof.ReprRoads
import HandS.Style
import HandS.List
import HandS.SetFor
import HandS.Ends
import KE.DataMinMax
import HandS.SortKw
import HandS.Sort
import KE.DataFind
import HandS.Conv
import KE.KDictZip
import HandS.Zip
import PyProof.ListNew
import KE.KExcInit
import KE.KTryMore
import KE.KExcIs
import HandS.ExcValue
import PyProof.AutoSeq1
import HandS.Deep
import PySem.Challenge.RW_benchcall_k13_barred_and_no_future
set_option Elab.async false
set_option linter.all false
set_option maxRecDepth 100000
set_option maxHeartbeats 4000000
namespace BD
open PySem PySem.Spec L2
abbrev Env := List (Option PyData)
/-- what an expression comes to: a value and the slots behind it; an error of a class, its field's name, its value; none -/
inductive R (α : Type) where
  | ok (a : α) (e : Env)
  | exc (c f : Str) (x : PyData) (e : Env)
  | bad
abbrev Ev := Env → R PyData
/-! ### data in the heap -/
def SL (K : PySem.W.Frag) (S : Addr → Prop) (H : Hp) (a : Addr) (xs : List V) : Prop :=
  (S a ∧ Rd H a (.lst xs)) ∨ (SqL K (fun _ => none) a xs)
mutual
inductive Rp (K : PySem.W.Frag) (S : Addr → Prop) (H : Hp) : V → PyData → Prop
  | non : Rp K S H .non .none
  | bl (b : Bool) : Rp K S H (.bl b) (.bool b)
  | int (i : Int) : Rp K S H (.int i) (.int i)
  | str (x : Str) : Rp K S H (.str x) (.str x)
  | lst {a : Addr} {xs : List V} {ds : List PyData} : SL K S H a xs → RpA K S H xs ds → Rp K S H (.ref a) (.list ds)
  | tup {a : Addr} {xs : List V} {ds : List PyData} : SqT K H a xs → RpA K S H xs ds → Rp K S H (.ref a) (.tuple ds)
inductive RpA (K : PySem.W.Frag) (S : Addr → Prop) (H : Hp) : List V → List PyData → Prop
  | nil : RpA K S H [] []
  | cons {v : V} {vs : List V} {d : PyData} {ds : List PyData} : Rp K S H v d → RpA K S H vs ds → RpA K S H (v :: vs) (d :: ds)
end
theorem SL.sq {K S H a xs} (h : SL K S H a xs) : SqL K H a xs := by
  rcases h with ⟨_, h⟩ | h
  · exact .inl h
  · rcases h with (h | ⟨o, h⟩) | h
    · cases h
    · cases h
    · exact .inr h
/-- H' keeps what S lets one lean on, and all tuples -/
structure Kp (S : Addr → Prop) (H H' : Hp) : Prop where
  at_ : ∀ p o, S p → H p = some o → H' p = some o
  tup : ∀ p xs, Rd H p (.tup xs) → Rd H' p (.tup xs)
theorem SL.mono {K S S' H H' a xs} (h : SL K S H a xs) (hS : ∀ p, S p → S' p) (k : Kp S H H') : SL K S' H' a xs := by
  rcases h with ⟨s, h | ⟨o, h⟩⟩ | h
  · exact .inl ⟨hS _ s, .inl (k.at_ _ _ s h)⟩
  · exact .inl ⟨hS _ s, .inr ⟨o, k.at_ _ _ s h⟩⟩
  · exact .inr h
theorem sqT_mono {K S H H' a xs} (h : SqT K H a xs) (k : Kp S H H') : SqT K H' a xs := by
  rcases h with h | h
  · exact .inl (k.tup _ _ h)
  · exact .inr h
mutual
theorem Rp.mono {K S S' H H'} (hS : ∀ p, S p → S' p) (k : Kp S H H') : ∀ {v d}, Rp K S H v d → Rp K S' H' v d
  | _, _, .non => .non
  | _, _, .bl b => .bl b
  | _, _, .int i => .int i
  | _, _, .str x => .str x
  | _, _, .lst h t => .lst (h.mono hS k) (RpA.mono hS k t)
  | _, _, .tup h t => .tup (sqT_mono h k) (RpA.mono hS k t)
theorem RpA.mono {K S S' H H'} (hS : ∀ p, S p → S' p) (k : Kp S H H') : ∀ {v d}, RpA K S H v d → RpA K S' H' v d
  | _, _, .nil => .nil
  | _, _, .cons h t => .cons (Rp.mono hS k h) (RpA.mono hS k t)
end
mutual
theorem Rp.dp {K S H} : ∀ {v d}, Rp K S H v d → Dp K H v d
  | _, _, .non => .non
  | _, _, .bl b => .bl b
  | _, _, .int i => .int i
  | _, _, .str x => .str x
  | _, _, .lst h t => .lst h.sq (RpA.dp t)
  | _, _, .tup h t => .tup h (RpA.dp t)
theorem RpA.dp {K S H} : ∀ {v d}, RpA K S H v d → DpAll K H v d
  | _, _, .nil => .nil
  | _, _, .cons h t => .cons (Rp.dp h) (RpA.dp t)
end
mutual
/-- no list within -/
def lfree : PyData → Bool
  | .list _ => false
  | .tuple xs => lfreeA xs
  | .dict _ => false
  | _ => true
def lfreeA : List PyData → Bool
  | [] => true
  | x :: xs => lfree x && lfreeA xs
end
mutual
theorem Rp.free {K S S' H} : ∀ {v d}, lfree d = true → Rp K S H v d → Rp K S' H v d
  | _, _, _, .non => .non
  | _, _, _, .bl b => .bl b
  | _, _, _, .int i => .int i
  | _, _, _, .str x => .str x
  | _, _, h, .lst _ _ => by simp [lfree] at h
  | _, _, h, .tup q t => .tup q (RpA.free (by simpa [lfree] using h) t)
theorem RpA.free {K S S' H} : ∀ {v d}, lfreeA d = true → RpA K S H v d → RpA K S' H v d
  | _, _, _, .nil => .nil
  | _, _, h, .cons q t => by
    rw [lfreeA, Bool.and_eq_true] at h
    exact .cons (Rp.free h.1 q) (RpA.free h.2 t)
end
theorem RpA.length {K S H} : ∀ {vs ds}, RpA K S H vs ds → vs.length = ds.length
  | _, _, .nil => rfl
  | _, _, .cons _ t => by simp [RpA.length t]
theorem RpA.get {K S H} : ∀ {vs ds} {i : Nat} {v : V}, RpA K S H vs ds → vs[i]? = some v → ∃ d, ds[i]? = some d ∧ Rp K S H v d
  | _, _, _, _, .nil, h => by simp at h
  | _, _, 0, _, .cons q t, h => by simp at h; subst h; exact ⟨_, rfl, q⟩
  | _, _, i + 1, _, .cons q t, h => by
    obtain ⟨d, h1, h2⟩ := RpA.get (i := i) t (by simpa using h)
    exact ⟨d, by simpa using h1, h2⟩
theorem RpA.get' {K S H} : ∀ {vs ds} {i : Nat} {d : PyData}, RpA K S H vs ds → ds[i]? = some d → ∃ v, vs[i]? = some v ∧ Rp K S H v d
  | _, _, _, _, .nil, h => by simp at h
  | _, _, 0, _, .cons q t, h => by simp at h; subst h; exact ⟨_, rfl, q⟩
  | _, _, i + 1, _, .cons q t, h => by
    obtain ⟨d, h1, h2⟩ := RpA.get' (i := i) t (by simpa using h)
    exact ⟨d, by simpa using h1, h2⟩
theorem RpA.app {K S H} : ∀ {vs ds vs' ds'}, RpA K S H vs ds → RpA K S H vs' ds' → RpA K S H (vs ++ vs') (ds ++ ds')
  | _, _, _, _, .nil, r => r
  | _, _, _, _, .cons q t, r => .cons q (RpA.app t r)
theorem RpA.set {K S H} {v d} (r : Rp K S H v d) : ∀ {vs ds} (i : Nat), RpA K S H vs ds → RpA K S H (vs.set i v) (ds.set i d)
  | _, _, _, .nil => .nil
  | _, _, 0, .cons q t => .cons r t
  | _, _, i + 1, .cons q t => .cons q (RpA.set r i t)
theorem RpA.take {K S H} : ∀ {vs ds} (n : Nat), RpA K S H vs ds → RpA K S H (vs.take n) (ds.take n)
  | _, _, 0, _ => .nil
  | _, _, _ + 1, .nil => .nil
  | _, _, n + 1, .cons q t => .cons q (RpA.take n t)
theorem RpA.drop {K S H} : ∀ {vs ds} (n : Nat), RpA K S H vs ds → RpA K S H (vs.drop n) (ds.drop n)
  | _, _, 0, r => r
  | _, _, _ + 1, .nil => .nil
  | _, _, n + 1, .cons q t => RpA.drop n t
theorem RpA.erase {K S H} : ∀ {vs ds} (n : Nat), RpA K S H vs ds → RpA K S H (vs.eraseIdx n) (ds.eraseIdx n)
  | _, _, _, .nil => .nil
  | _, _, 0, .cons q t => t
  | _, _, n + 1, .cons q t => .cons q (RpA.erase n t)
theorem RpA.rev {K S H} : ∀ {vs ds}, RpA K S H vs ds → RpA K S H vs.reverse ds.reverse
  | _, _, .nil => .nil
  | _, _, .cons q t => by
    rw [List.reverse_cons, List.reverse_cons]
    exact (RpA.rev t).app (.cons q .nil)
theorem RpA.rep {K S H} {vs ds} (h : RpA K S H vs ds) : ∀ n : Nat, RpA K S H (List.replicate n vs).flatten (List.replicate n ds).flatten
  | 0 => .nil
  | n + 1 => by
    rw [List.replicate_succ, List.replicate_succ, List.flatten_cons, List.flatten_cons]
    exact h.app (RpA.rep h n)
theorem RpA.one {K S H v d} (h : Rp K S H v d) : RpA K S H [v] [d] := .cons h .nil
/-- what only grows -/
abbrev Ext (H H' : Hp) : Prop := ∀ p o, H p = some o → H' p = some o
theorem Ext.refl (H : Hp) : Ext H H := fun _ _ h => h
theorem Ext.trans {H H1 H2 : Hp} (a : Ext H H1) (b : Ext H1 H2) : Ext H H2 := fun p o h => b p o (a p o h)
theorem Ext.upd {H : Hp} {p : Addr} {o : HO} (h : H p = none) : Ext H (upd H p o) := fun b x e => by
  rw [upd_ne (ne_of_none e h)]; exact e
theorem Ext.rd {H H' : Hp} (h : Ext H H') {p u} (r : Rd H p u) : Rd H' p u := by
  rcases r with r | ⟨o, r⟩
  · exact .inl (h _ _ r)
  · exact .inr ⟨o, h _ _ r⟩
theorem Ext.kp {S : Addr → Prop} {H H' : Hp} (h : Ext H H') : Kp S H H' := ⟨fun p o _ => h p o, fun _ _ => h.rd⟩
theorem Rp.ext {K S S' H H' v d} (r : Rp K S H v d) (hS : ∀ p, S p → S' p) (h : Ext H H') : Rp K S' H' v d := r.mono hS h.kp
theorem RpA.ext {K S S' H H' v d} (r : RpA K S H v d) (hS : ∀ p, S p → S' p) (h : Ext H H') : RpA K S' H' v d := r.mono hS h.kp
theorem Rp.trk {K S H} {v d} (r : Rp K S H v d) : Rp K (fun q => S q ∧ ∃ o, H q = some o) H v d := by
  refine Rp.rec (motive_1 := fun v d _ => Rp K (fun q => S q ∧ ∃ o, H q = some o) H v d) (motive_2 := fun v d _ => RpA K (fun q => S q ∧ ∃ o, H q = some o) H v d) .non .bl .int .str (fun {a xs ds} h _ t => .lst ?_ t) (fun h _ t => .tup h t) .nil (fun _ _ a b => .cons a b) r
  rcases h with ⟨s, h⟩ | h
  · exact .inl ⟨⟨s, by rcases h with h | ⟨o, h⟩ <;> exact ⟨_, h⟩⟩, h⟩
  · exact .inr h
/-! ### a caught error in a slot -/
/-- the built-in classes over the program's own classes of errors -/
def bmOf (c : Str) : List Value :=
  if (["NoPerson", "NoNumber", "NoDeed"] : List Str).contains c then [.type "LookupError", .type "Exception", .type "BaseException", .type "object"]
  else if (["OtherPeople", "NoFuture", "BadDeed", "BadText", "BadLine"] : List Str).contains c then [.type "ValueError", .type "Exception", .type "BaseException", .type "object"]
  else if (["First", "Barred", "Taken"] : List Str).contains c then [.type "RuntimeError", .type "Exception", .type "BaseException", .type "object"]
  else [.type "OverflowError", .type "ArithmeticError", .type "Exception", .type "BaseException", .type "object"]
/-- what the written part says of the class c at C, whose instances have the field f -/
structure XCl (K : PySem.W.Frag) (c f : Str) (C : Addr) : Prop where
  ns : PySem.W.nsIn K mainGlobals c = some (some (.ref C))
  cls : ∃ q N bs sn sub ab col dd k0 k1 k2 k3 k5 newId, K.lookup C = some (excClassObj c q C N bs (bmOf c) true sn sub ab col dd k0 k1 k2 k3 k5 newId)
  ga : PySem.W.findIn K (.ref C) "__getattribute__" = some (some (.builtin "BaseException.__getattribute__"))
  gg : PySem.W.findIn K (.ref C) "__getattr__" = some none
  tyC : PySem.W.typeIn K (.ref C) = some (.type "type")
  ha : PySem.W.findIn K (.ref C) "__class__" = some (some (.builtin "object.__class__"))
  hn : PySem.W.specialIn K (.builtin "object.__class__") "__get__" = some (some (.builtin "getset_descriptor.__get__"))
  ht : PySem.W.takesIn K (.builtin "object.__class__") = some true
  no : PySem.W.findIn K (.ref C) f = some none
/-- at a: an error of the class at C, its dict at dx -/
def XO (a C dx : Addr) : HO := .ext fun h => ∃ (oe : Obj) (vs : Array Value), h.get? a = some oe ∧ Zc (.ref C) (some dx) oe ∧ oe.data = .fields vs
/-- its name as data -/
def xD (c f : Str) (x : PyData) : PyData := .dict [(.none, .tuple [.str c, .str f, x])]
def isX : PyData → Bool
  | .dict _ => true
  | _ => false
def nX {α : Type} (d : PyData) (r : R α) : R α := if isX d = true then .bad else r
def XV (K : PySem.W.Frag) (S : Addr → Prop) (H : Hp) (v : V) (d : PyData) : Prop :=
  ∃ (a C dx : Addr) (y : V) (c f : Str) (x : PyData), v = .ref a ∧ d = xD c f x ∧ S a ∧ H a = some (XO a C dx) ∧ S dx ∧ H dx = some (.xd [(f, y)]) ∧ Rp K S H y x ∧ lfree x = true ∧ XCl K c f C
def RpS (K : PySem.W.Frag) (S : Addr → Prop) (H : Hp) (v : V) (d : PyData) : Prop := Rp K S H v d ∨ XV K S H v d
theorem RpS.mono {K : PySem.W.Frag} {S S' : Addr → Prop} {H H' : Hp} {v : V} {d : PyData} (q : RpS K S H v d) (hS : ∀ p, S p → S' p) (k : Kp S H H') : RpS K S' H' v d := by
  rcases q with q | ⟨a, C, dx, y, c, f, x, e1, e2, sa, ha, sd, hd, r, l, T⟩
  · exact .inl (q.mono hS k)
  · exact .inr ⟨a, C, dx, y, c, f, x, e1, e2, hS _ sa, k.at_ _ _ sa ha, hS _ sd, k.at_ _ _ sd hd, r.mono hS k, l, T⟩
theorem RpS.trk {K : PySem.W.Frag} {S : Addr → Prop} {H : Hp} {v : V} {d : PyData} (q : RpS K S H v d) : RpS K (fun q => S q ∧ ∃ o, H q = some o) H v d := by
  rcases q with q | ⟨a, C, dx, y, c, f, x, e1, e2, sa, ha, sd, hd, r, l, T⟩
  · exact .inl q.trk
  · exact .inr ⟨a, C, dx, y, c, f, x, e1, e2, ⟨sa, _, ha⟩, ha, ⟨sd, _, hd⟩, hd, r.trk, l, T⟩
theorem RpS.rp {K : PySem.W.Frag} {S : Addr → Prop} {H : Hp} {v : V} {d : PyData} (q : RpS K S H v d) (h : isX d = false) : Rp K S H v d := by
  rcases q with q | ⟨a, C, dx, y, c, f, x, e1, e2, _⟩
  · exact q
  · rw [e2] at h; cases h
/-! ### the slots -/
structure Bs where
  B : Hp
  Rm : Nat → Addr → Prop
  S0 : Addr → Prop
  Z : Addr → Prop
  rf : List (Nat × Addr)
def Cl (M : List Nat) (σ : St) (p : Addr) : Prop := ∃ i ∈ M, σ[i]? = some (some (.ref p))
def Sb (M : List Nat) (b : Bs) (σ : St) (p : Addr) : Prop := ¬ Cl M σ p ∧ ¬ b.Z p ∧ ∀ o, b.B p = some o → b.S0 p
def SlotI (K : PySem.W.Frag) (S : Addr → Prop) (H : Hp) : Option (Option V) → Option (Option PyData) → Prop
  | some (some v), some (some d) => RpS K S H v d
  | some none, some none => True
  | none, none => True
  | _, _ => False
def SlotM (K : PySem.W.Frag) (b : Bs) (i : Nat) (S : Addr → Prop) (H : Hp) : Option (Option V) → Option (Option PyData) → Prop
  | some (some v), some (some d) => ∃ p vs ds, v = .ref p ∧ d = .list ds ∧ H p = some (.lst vs) ∧ RpA K S H vs ds ∧ (∀ o, b.B p = some o → b.Rm i p) ∧ ¬ b.Z p
  | some none, some none => True
  | none, none => True
  | _, _ => False
structure Loc (K : PySem.W.Frag) (M : List Nat) (b : Bs) (σ : St) (H : Hp) (δ : Env) : Prop where
  trk : ∀ p o, b.B p = some o → ∃ o', H p = some o'
  fr : ∀ p o, b.B p = some o → (∀ i, ¬ b.Rm i p) → H p = some o
  tp : ∀ p xs, Rd b.B p (.tup xs) → Rd H p (.tup xs)
  imm : ∀ i, i ∉ M → SlotI K (Sb M b σ) H σ[i]? δ[i]?
  mu : ∀ i, i ∈ M → SlotM K b i (Sb M b σ) H σ[i]? δ[i]?
  inj : ∀ i j p, i ∈ M → j ∈ M → σ[i]? = some (some (.ref p)) → σ[j]? = some (some (.ref p)) → i = j
  rfs : ∀ q ∈ b.rf, q.1 ∈ M ∧ σ[q.1]? = some (some (.ref q.2)) ∧ b.Rm q.1 q.2
  zT : ∀ p, b.Z p → ∃ xs, H p = some (.lst xs)
  zB : ∀ p o, b.B p = some o → ¬ b.Z p
/-- what may change: the cells of U -/
def Gr (U : List Nat) (σ : St) (H H' : Hp) : Prop := ∀ p o, H p = some o → ¬ Cl U σ p → H' p = some o
theorem Cl.sub {M M' : List Nat} {σ p} (h : Cl M σ p) (s : ∀ i ∈ M, i ∈ M') : Cl M' σ p := let ⟨i, a, b⟩ := h; ⟨i, s i a, b⟩
theorem Sb.sub {M M' : List Nat} {b σ p} (h : Sb M b σ p) (s : ∀ i ∈ M', i ∈ M) : Sb M' b σ p := ⟨fun c => h.1 (c.sub s), h.2⟩
/-- what a value may lean on: the stable things, and the cells of W, which it lets out -/
def SW (M W : List Nat) (b : Bs) (σ : L2.St) (p : Addr) : Prop := Cl W σ p ∨ Sb M b σ p
theorem SW.sub {M W W' : List Nat} {b σ p} (h : SW M W b σ p) (s : ∀ i ∈ W, i ∈ W') : SW M W' b σ p := h.imp (fun c => c.sub s) id
theorem SW.nil {M : List Nat} {b σ p} (h : SW M [] b σ p) : Sb M b σ p := by
  rcases h with ⟨i, hi, _⟩ | h
  · simp at hi
  · exact h
section
variable {K : PySem.W.Frag} {M : List Nat} {b : Bs} {σ : St} {H H' : Hp} {δ : Env}
theorem Loc.cell (L : Loc K M b σ H δ) {p} (h : Cl M σ p) : ∃ xs, H p = some (.lst xs) := by
  obtain ⟨i, hi, e⟩ := h
  have q := L.mu i hi
  rw [e] at q
  cases hd : δ[i]? with
  | none => rw [hd] at q; exact q.elim
  | some o =>
    rw [hd] at q
    cases o with
    | none => exact q.elim
    | some d =>
      obtain ⟨p', vs, ds, e1, _, h1, _⟩ := q
      cases e1
      exact ⟨vs, h1⟩
theorem Loc.nw (L : Loc K M b σ H δ) {M' : List Nat} (s : ∀ i ∈ M', i ∈ M) {p} (h : H p = none) : Sb M' b σ p := by
  refine ⟨fun c => ?_, fun z => ?_, fun o e => ?_⟩
  · obtain ⟨xs, q⟩ := L.cell (c.sub s)
    rw [h] at q; cases q
  · obtain ⟨xs, q⟩ := L.zT _ z
    rw [h] at q; cases q
  · obtain ⟨o', q⟩ := L.trk _ _ e
    rw [h] at q; cases q
theorem Loc.ntup (L : Loc K M b σ H δ) {U : List Nat} (s : ∀ i ∈ U, i ∈ M) {p xs} (h : Rd H p (.tup xs)) : ¬ Cl U σ p := fun c => by
  obtain ⟨ys, q⟩ := L.cell (c.sub s)
  rcases h with h | ⟨o, h⟩ <;> (rw [h] at q; cases q)
/-- stable things are kept where the cells of U change -/
theorem Loc.kp (L : Loc K M b σ H δ) {U W : List Nat} (s : ∀ i ∈ U, i ∈ M) (sw : ∀ i ∈ W, i ∈ M) (dj : ∀ i ∈ U, i ∉ W) (g : Gr U σ H H') : Kp (SW M W b σ) H H' :=
  ⟨fun p o hs h => g p o h fun c => by
      rcases hs with c' | hs
      · obtain ⟨i, hi, e⟩ := c
        obtain ⟨j, hj, e'⟩ := c'
        have := L.inj i j p (s i hi) (sw j hj) e e'
        subst this
        exact dj i hi hj
      · exact hs.1 (c.sub s), fun p xs h => by
    have n := L.ntup s h
    rcases h with h | ⟨o, h⟩
    · exact .inl (g _ _ h n)
    · exact .inr ⟨o, g _ _ h n⟩⟩
theorem Gr.refl (U : List Nat) (σ : St) (H : Hp) : Gr U σ H H := fun _ _ h _ => h
theorem Gr.trans {U1 U2 U : List Nat} {H1 H2 : Hp} (a : Gr U1 σ H H1) (b : Gr U2 σ H1 H2) (s1 : ∀ i ∈ U1, i ∈ U) (s2 : ∀ i ∈ U2, i ∈ U) : Gr U σ H H2 := fun p o h n =>
  b p o (a p o h fun c => n (c.sub s1)) fun c => n (c.sub s2)
theorem Gr.ext {U : List Nat} (h : Ext H H') : Gr U σ H H' := fun p o q _ => h p o q
/-- the heap grows: all slots as they were -/
theorem Loc.ext (L : Loc K M b σ H δ) (e : Ext H H') : Loc K M b σ H' δ where
  trk := fun p o h => let ⟨o', q⟩ := L.trk p o h; ⟨o', e _ _ q⟩
  fr := fun p o h n => e _ _ (L.fr p o h n)
  tp := fun p xs h => e.rd (L.tp p xs h)
  imm := fun i hi => by
    have q := L.imm i hi
    cases h1 : σ[i]? with
    | none => rw [h1] at q; cases h2 : δ[i]? <;> rw [h2] at q <;> first | exact q | (rename_i o; cases o <;> exact q)
    | some o =>
      rw [h1] at q
      cases h2 : δ[i]? with
      | none => rw [h2] at q; cases o <;> exact q
      | some u =>
        rw [h2] at q
        cases o with
        | none => cases u <;> exact q
        | some v =>
          cases u with
          | none => exact q
          | some d => exact (show RpS K _ H v d from q).mono (fun _ h => h) e.kp
  mu := fun i hi => by
    have q := L.mu i hi
    cases h1 : σ[i]? with
    | none => rw [h1] at q; cases h2 : δ[i]? <;> rw [h2] at q <;> first | exact q | (rename_i o; cases o <;> exact q)
    | some o =>
      rw [h1] at q
      cases h2 : δ[i]? with
      | none => rw [h2] at q; cases o <;> exact q
      | some u =>
        rw [h2] at q
        cases o with
        | none => cases u <;> exact q
        | some v =>
          cases u with
          | none => exact q
          | some d =>
            obtain ⟨p, vs, ds, e1, e2, h1, r, x⟩ := q
            exact ⟨p, vs, ds, e1, e2, e _ _ h1, r.ext (fun _ h => h) e, x⟩
  inj := L.inj
  rfs := L.rfs
  zT := fun p h => let ⟨xs, q⟩ := L.zT p h; ⟨xs, e _ _ q⟩
  zB := L.zB
end
/-! ### expressions -/
/-- how an error of the class c (field f, value x) lies in the heap -/
def ExcR (K : PySem.W.Frag) (mg : Str → Option Value) (S : Addr → Prop) (c f : Str) (x : PyData) (cls : Value) (d : Option Addr) (H : Hp) : Prop :=
  ∃ C dx v, mg c = some (.ref C) ∧ cls = .ref C ∧ d = some dx ∧ S dx ∧ H dx = some (.xd [(f, v)]) ∧ Rp K (fun _ => True) H v x ∧ lfree x = true
theorem ExcR.conv {K : PySem.W.Frag} {mg : Str → Option Value} {S S' : Addr → Prop} {c f : Str} {x : PyData} {cls : Value} {d : Option Addr} {H : Hp} (h : ExcR K mg S c f x cls d H) (hS : ∀ p, S p → S' p) : ExcR K mg S' c f x cls d H := by
  obtain ⟨C, dx, v, e1, e2, e3, e4, e5⟩ := h
  exact ⟨C, dx, v, e1, e2, e3, hS _ e4, e5⟩
/-- new since the world began -/
def Nb (b : Bs) (p : Addr) : Prop := b.B p = none
theorem Loc.nb {K : PySem.W.Frag} {M : List Nat} {b : Bs} {σ : St} {H : Hp} {δ : Env} (L : Loc K M b σ H δ) {p : Addr} (h : H p = none) : Nb b p := by
  cases q : b.B p with
  | none => exact q
  | some o =>
    obtain ⟨o', z⟩ := L.trk p o q
    rw [h] at z; cases z
structure Post (K : PySem.W.Frag) (M W U : List Nat) (b : Bs) (σ : St) (H : Hp) (δ' : Env) (d : PyData) (v : V) (H' : Hp) : Prop where
  loc : Loc K M b σ H' δ'
  gr : Gr U σ H H'
  rp : Rp K (SW M W b σ) H' v d
abbrev WXs := Value → Option Addr → St → Hp → Prop
def Fin (K : PySem.W.Frag) (mg : Str → Option Value) (wx : WXs) (M W U : List Nat) (b : Bs) (σ : St) (H : Hp) (r : R PyData) (Q : VK) : Prop :=
  match r with
  | .ok d δ' => ∀ v H', Post K M W U b σ H δ' d v H' → Q v H'
  | .exc c f x δ' => ∀ cls dd H', Loc K M b σ H' δ' → Gr U σ H H' → ExcR K mg (Nb b) c f x cls dd H' → wx cls dd σ H'
  | .bad => False
def tD (K : PySem.W.Frag) (mg : Str → Option Value) (wx : WXs) (M W U : List Nat) (ev : Ev) : TE := fun σ H Q =>
  ∃ δ b, Loc K M b σ H δ ∧ Fin K mg wx M W U b σ H (ev δ) Q
def PD (X : Cx) (wx : WXs) (M W U : List Nat) (e : Expr) (ev : Ev) : Prop := PE X e (tD X.K X.mg wx M W U ev)
theorem pe_imp {X : Cx} {e : Expr} {t t' : TE} (h : PE X e t) (i : ∀ σ H Q, t' σ H Q → t σ H Q) : PE X e t' := ⟨fun pins s σ H Q I q => h.run pins s σ H Q I (i _ _ _ q)⟩
theorem pt_imp {X : Cx} {e : Expr} {t t' : TT} (h : PT X e t) (i : ∀ σ H Q, t' σ H Q → t σ H Q) : PT X e t' := ⟨fun pins s σ H Q I q => h.run pins s σ H Q I (i _ _ _ q)⟩
theorem ps_imp {X : Cx} {e : Stmt} {t t' : TS} (h : PS X e t) (i : ∀ D σ H, t' D σ H → t D σ H) : PS X e t' := ⟨fun pins s σ H D I q => h.run pins s σ H D I (i _ _ _ q)⟩
theorem pss_imp {X : Cx} {e : List Stmt} {t t' : TS} (h : PSs X e t) (i : ∀ D σ H, t' D σ H → t D σ H) : PSs X e t' := ⟨fun pins s σ H D I q => h.run pins s σ H D I (i _ _ _ q)⟩
end BD
namespace BD
open PySem PySem.Spec L2
def dj (U W : List Nat) : Bool := U.all fun i => !W.contains i
def sb (U M : List Nat) : Bool := U.all fun i => M.contains i
theorem dj_of {U W : List Nat} (h : dj U W = true) : ∀ i ∈ U, i ∉ W := fun i hi hw => by
  have := List.all_eq_true.mp h i hi
  simp at this
  exact this hw
theorem sb_of {U W : List Nat} (h : sb U W = true) : ∀ i ∈ U, i ∈ W := fun i hi => by
  have := List.all_eq_true.mp h i hi
  simpa using this
@[inline] def R.bind {α β : Type} (r : R α) (f : α → Env → R β) : R β :=
  match r with
  | .ok a e => f a e
  | .exc c g x e => .exc c g x e
  | .bad => .bad
def ofO {α : Type} (o : Option α) (e : Env) : R α := match o with
  | some a => .ok a e
  | none => .bad
section
variable {K : PySem.W.Frag} {mg : Str → Option Value} {wx : WXs} {M W W1 W2 U U1 U2 : List Nat} {b : Bs} {σ : L2.St} {H H1 H2 : Hp} {δ δ1 δ2 : Env}
theorem Fin.bad {Q} (h : Fin K mg wx M W U b σ H .bad Q) : False := h
/-- an error behind some steps -/
theorem Fin.exc_step {c f x e Q Q'} (h : Fin K mg wx M W U b σ H (.exc c f x e) Q) (g : Gr U1 σ H H1) (s1 : ∀ i ∈ U1, i ∈ U) (s2 : ∀ i ∈ U2, i ∈ U) : Fin K mg wx M W2 U2 b σ H1 (.exc c f x e) Q' :=
  fun cls dd H' L gr ex => h cls dd H' L (g.trans gr s1 s2) ex
theorem Rp.keep {v d} (p : Rp K (SW M W1 b σ) H1 v d) (L : Loc K M b σ H1 δ1) (g : Gr U2 σ H1 H2) (hs : sb U2 M = true) (hw : sb W1 M = true) (hd : dj U2 W1 = true) : Rp K (SW M W1 b σ) H2 v d :=
  p.mono (fun _ q => q) (L.kp (sb_of hs) (sb_of hw) (dj_of hd) g)
theorem RpA.keep {v d} (p : RpA K (SW M W1 b σ) H1 v d) (L : Loc K M b σ H1 δ1) (g : Gr U2 σ H1 H2) (hs : sb U2 M = true) (hw : sb W1 M = true) (hd : dj U2 W1 = true) : RpA K (SW M W1 b σ) H2 v d :=
  p.mono (fun _ q => q) (L.kp (sb_of hs) (sb_of hw) (dj_of hd) g)
theorem Rp.wide {v d} (p : Rp K (SW M W1 b σ) H1 v d) (hW : ∀ i ∈ W1, i ∈ W) : Rp K (SW M W b σ) H1 v d :=
  p.mono (fun _ q => q.sub hW) (Ext.refl H1).kp
theorem RpA.wide {v d} (p : RpA K (SW M W1 b σ) H1 v d) (hW : ∀ i ∈ W1, i ∈ W) : RpA K (SW M W b σ) H1 v d :=
  p.mono (fun _ q => q.sub hW) (Ext.refl H1).kp
theorem Loc.nwW (L : Loc K M b σ H δ) {p} (h : H p = none) : SW M W b σ p := .inr (L.nw (fun _ h => h) h)
end
/-! ### names, constants -/
def eVar (i : Nat) : Ev := fun δ => match δ[i]? with
  | some (some d) => nX d (.ok d δ)
  | _ => .bad
def eC (d : PyData) : Ev := fun δ => .ok d δ
section
variable {X : Cx} {wx : WXs} {M W W1 W2 U U1 U2 : List Nat}
theorem getSlotI {K S H} {i : Nat} {d : PyData} {σ : L2.St} {δ : Env} (h : SlotI K S H σ[i]? δ[i]?) (e : δ[i]? = some (some d)) (hx : isX d = false) : ∃ v, σ[i]? = some (some v) ∧ Rp K S H v d := by
  rw [e] at h
  cases q : σ[i]? with
  | none => rw [q] at h; exact h.elim
  | some o =>
    rw [q] at h
    cases o with
    | none => exact h.elim
    | some v => exact ⟨v, rfl, RpS.rp h hx⟩
theorem getSlotM {K b S H} {i : Nat} {d : PyData} {σ : L2.St} {δ : Env} (h : SlotM K b i S H σ[i]? δ[i]?) (e : δ[i]? = some (some d)) :
    ∃ p vs ds, σ[i]? = some (some (.ref p)) ∧ d = .list ds ∧ H p = some (.lst vs) ∧ RpA K S H vs ds ∧ (∀ o, b.B p = some o → b.Rm i p) ∧ ¬ b.Z p := by
  rw [e] at h
  cases q : σ[i]? with
  | none => rw [q] at h; exact h.elim
  | some o =>
    rw [q] at h
    cases o with
    | none => exact h.elim
    | some v =>
      obtain ⟨p, vs, ds, rfl, r⟩ := h
      exact ⟨p, vs, ds, rfl, r⟩
theorem eVar_ok {i δ d δ'} (h : eVar i δ = .ok d δ') : δ[i]? = some (some d) ∧ δ' = δ := by
  unfold eVar at h
  split at h
  · rename_i d' e
    unfold nX at h
    split at h
    · cases h
    · cases h
      exact ⟨e, rfl⟩
  · cases h
theorem eVar_nx {i δ d δ'} (h : eVar i δ = .ok d δ') : isX d = false := by
  unfold eVar at h
  split at h
  · rename_i d' e
    unfold nX at h
    split at h
    · cases h
    · rename_i n
      cases h
      simpa using n
  · cases h
theorem eVar_exc {i δ c g x e'} (h : eVar i δ = .exc c g x e') : False := by
  unfold eVar at h
  split at h
  · unfold nX at h
    split at h <;> cases h
  · cases h
theorem pd_var (i : Nat) {x : Str} {pos : Pos} (hM : M.contains i = false := by rfl) (hN : X.N[i]? = some x := by rfl) (hv : Vis X.env.scope x := by first | exact Or.inl rfl | exact Or.inr (Or.inl rfl) | exact Or.inr (Or.inr rfl))
    (hd : (x == ("__debug__" : Str)) = false := by decide) (hcd : (x == ("__classdict__" : Str)) = false := by decide) : PD X wx M [] [] (.Name x pos) (eVar i) := by
  refine pe_imp (pe_var hN hv hd hcd) fun σ H Q ⟨δ, b, L, f⟩ => ?_
  have nM : i ∉ M := by simpa using hM
  cases e : eVar i δ with
  | bad => rw [e] at f; exact f.elim
  | exc c g x e' =>
    exact (eVar_exc e).elim
  | ok d δ' =>
    obtain ⟨e1, rfl⟩ := eVar_ok e
    rw [e] at f
    obtain ⟨v, e2, r⟩ := getSlotI (L.imm i nM) e1 (eVar_nx e)
    exact ⟨v, e2, f v H ⟨L, Gr.refl _ _ _, r.mono (fun p h => .inr h) (Ext.refl H).kp⟩⟩
/-- a cell as a value: it escapes -/
theorem pd_varM (i : Nat) {x : Str} {pos : Pos} (hM : M.contains i = true := by rfl) (hN : X.N[i]? = some x := by rfl) (hv : Vis X.env.scope x := by first | exact Or.inl rfl | exact Or.inr (Or.inl rfl) | exact Or.inr (Or.inr rfl))
    (hd : (x == ("__debug__" : Str)) = false := by decide) (hcd : (x == ("__classdict__" : Str)) = false := by decide) : PD X wx M [i] [] (.Name x pos) (eVar i) := by
  refine pe_imp (pe_var hN hv hd hcd) fun σ H Q ⟨δ, b, L, f⟩ => ?_
  have nM : i ∈ M := by simpa using hM
  cases e : eVar i δ with
  | bad => rw [e] at f; exact f.elim
  | exc c g x e' =>
    exact (eVar_exc e).elim
  | ok d δ' =>
    obtain ⟨e1, rfl⟩ := eVar_ok e
    rw [e] at f
    obtain ⟨p, vs, ds, e2, rfl, h1, r, hB, hZ⟩ := getSlotM (L.mu i nM) e1
    exact ⟨_, e2, f _ H ⟨L, Gr.refl _ _ _, .lst (.inl ⟨.inl ⟨i, by simp, e2⟩, .inl h1⟩) (r.mono (fun p h => .inr h) (Ext.refl H).kp)⟩⟩
theorem pd_const {e : Expr} {v : V} {d : PyData} (h : PE X e (tC v)) (hr : ∀ K S H, Rp K S H v d) : PD X wx M [] [] e (eC d) :=
  pe_imp h fun σ H Q ⟨δ, b, L, f⟩ => f v H ⟨L, Gr.refl _ _ _, hr _ _ _⟩
theorem pd_int {i : Int} {j pos} : PD X wx M [] [] (.Constant (.int i) j pos) (eC (.int i)) := pd_const pe_int fun _ _ _ => .int i
theorem pd_bl {i : Bool} {j pos} : PD X wx M [] [] (.Constant (.bool i) j pos) (eC (.bool i)) := pd_const pe_bl fun _ _ _ => .bl i
theorem pd_non {j pos} : PD X wx M [] [] (.Constant .none j pos) (eC .none) := pd_const pe_non fun _ _ _ => .non
theorem pd_str {i : Str} {j pos} : PD X wx M [] [] (.Constant (.str i) j pos) (eC (.str i)) := pd_const pe_str fun _ _ _ => .str i
/-- a module's constant that is an int or a text -/
def cV : PyData → Option V
  | .none => some .non
  | .bool b => some (.bl b)
  | .int i => some (.int i)
  | .str x => some (.str x)
  | _ => none
theorem pd_glob {x : Str} {v : V} {u : Value} {pos : Pos} (d : PyData) (hm : X.mg x = some u) (r : RelV v u) (hv : cV d = some v := by rfl) (hg : Gl X x := by rfl) (hd : (x == ("__debug__" : Str)) = false := by decide) : PD X wx M [] [] (.Name x pos) (eC d) :=
  pd_const (pe_glob hg hm r hd) fun K S H => by
    cases d <;> simp [cV] at hv <;> subst hv <;> constructor
/-! ### lists of arguments -/
def FinA (K : PySem.W.Frag) (mg : Str → Option Value) (wx : WXs) (M W U : List Nat) (b : Bs) (σ : L2.St) (H : Hp) (r : R (List PyData)) (Q : List V → Hp → Prop) : Prop :=
  match r with
  | .ok ds δ' => ∀ vs H', Loc K M b σ H' δ' → Gr U σ H H' → RpA K (SW M W b σ) H' vs ds → Q vs H'
  | .exc c f x δ' => ∀ cls dd H', Loc K M b σ H' δ' → Gr U σ H H' → ExcR K mg (Nb b) c f x cls dd H' → wx cls dd σ H'
  | .bad => False
def tDA (K : PySem.W.Frag) (mg : Str → Option Value) (wx : WXs) (M W U : List Nat) (ev : Env → R (List PyData)) : TA := fun σ H Q =>
  ∃ δ b, Loc K M b σ H δ ∧ FinA K mg wx M W U b σ H (ev δ) Q
def PAD (X : Cx) (wx : WXs) (M W U : List Nat) (es : List Expr) (ev : Env → R (List PyData)) : Prop := PA X es (tDA X.K X.mg wx M W U ev)
theorem pa_imp {es : List Expr} {t t' : TA} (h : PA X es t) (i : ∀ σ H Q, t' σ H Q → t σ H Q) : PA X es t' := ⟨fun pos pins s σ H Q I q => h.run pos pins s σ H Q I (i _ _ _ q)⟩
theorem Gr.mono {U U' : List Nat} {σ : L2.St} {H H' : Hp} (g : Gr U σ H H') (s : ∀ i ∈ U, i ∈ U') : Gr U' σ H H' := fun p o h n => g p o h fun c => n (c.sub s)
theorem inl_app {U1 U2 : List Nat} : ∀ i ∈ U1, i ∈ U1 ++ U2 := fun i h => List.mem_append_left _ h
theorem inr_app {U1 U2 : List Nat} : ∀ i ∈ U2, i ∈ U1 ++ U2 := fun i h => List.mem_append_right _ h
def eNil : Env → R (List PyData) := fun δ => .ok [] δ
def eCons (ev : Ev) (evs : Env → R (List PyData)) : Env → R (List PyData) := fun δ => (ev δ).bind fun d δ1 => (evs δ1).bind fun ds δ2 => .ok (d :: ds) δ2
theorem pad_nil : PAD X wx M [] [] [] eNil := pa_imp pa_nil fun σ H Q ⟨δ, b, L, f⟩ => f [] H L (Gr.refl _ _ _) .nil
theorem pad_cons {e : Expr} {es : List Expr} {ev : Ev} {evs : Env → R (List PyData)} (ha : PD X wx M W1 U1 e ev) (hr : PAD X wx M W2 U2 es evs) (h1 : sb U2 M = true := by rfl) (h2 : sb W1 M = true := by rfl) (h3 : dj U2 W1 = true := by rfl)
    (hs : starEach (e :: es) X.env = (false, eval e X.env) :: starEach es X.env := by rfl) : PAD X wx M (W1 ++ W2) (U1 ++ U2) (e :: es) (eCons ev evs) := by
  refine pa_imp (pa_cons ha hr hs) fun σ H Q ⟨δ, b, L, f⟩ => ⟨δ, b, L, ?_⟩
  unfold eCons at f
  cases e1 : ev δ with
  | bad => rw [e1] at f; exact f
  | exc c g x e' => rw [e1] at f; exact fun cls dd H' L' g' ex => f cls dd H' L' (g'.mono inl_app) ex
  | ok d δ1 =>
    rw [e1] at f
    intro v H1 p
    refine ⟨δ1, b, p.loc, ?_⟩
    cases e2 : evs δ1 with
    | bad => simp only [R.bind, e2] at f; exact f
    | exc c g x e' => simp only [R.bind, e2] at f; exact fun cls dd H' L' g' ex => f cls dd H' L' (p.gr.trans g' inl_app inr_app) ex
    | ok ds δ2 =>
      simp only [R.bind, e2] at f
      intro vs H2 L2 g2 r2
      exact f (v :: vs) H2 L2 (p.gr.trans g2 inl_app inr_app) (.cons ((p.rp.keep p.loc g2 h1 h2 h3).wide inl_app) (r2.wide inr_app))
/-! ### operators -/
/-- what an operation on two values makes of data -/
def Op2 (K : PySem.W.Frag) (r : R2) (f : PyData → PyData → Option PyData) : Prop :=
  ∀ (S : Addr → Prop) (H : Hp) (x y : V) (da db d : PyData) (Q : VK), Rp K S H x da → Rp K S H y db → f da db = some d →
    (∀ v H', Ext H H' → Rp K (fun p => S p ∨ H p = none) H' v d → Q v H') → r x y H Q
def eBin (f : PyData → PyData → Option PyData) (a b : Ev) : Ev := fun δ => (a δ).bind fun x δ1 => (b δ1).bind fun y δ2 => ofO (f x y) δ2
theorem Op2.or {K : PySem.W.Frag} {r r' : R2} {f f' : PyData → PyData → Option PyData} (h : Op2 K r f) (h' : Op2 K r' f') : Op2 K (fun x y H Q => r x y H Q ∨ r' x y H Q) (fun a b => (f a b).or (f' a b)) := by
  intro S H x y da db d Q rx ry e q
  have e : (f da db).or (f' da db) = some d := e
  cases e1 : f da db with
  | none => rw [e1] at e; exact .inr (h' S H x y da db d Q rx ry (by simpa using e) q)
  | some z => rw [e1] at e; exact .inl (h S H x y da db d Q rx ry (by rw [e1]; simpa using e) q)
theorem fin_op {K : PySem.W.Frag} {mg : Str → Option Value} {b : Bs} {σ : L2.St} {H H' H1 : Hp} {δ' : Env} {d : PyData} {v : V} {Q : VK} (f : Fin K mg wx M W U b σ H (.ok d δ') Q) (L : Loc K M b σ H1 δ') (g : Gr U σ H H1)
    (e : Ext H1 H') (r : Rp K (fun p => SW M W b σ p ∨ H1 p = none) H' v d) : Q v H' :=
  f v H' ⟨L.ext e, g.trans (Gr.ext e) (fun _ h => h) (fun _ (h : _ ∈ ([] : List Nat)) => by simp at h), r.mono (fun p h => h.elim id fun n => L.nwW n) (Ext.refl H').kp⟩
theorem pd_bin {op : Operator} {r : R2} {f : PyData → PyData → Option PyData} {a c : Expr} {ea eb : Ev} {pos : Pos} (ho : OpR X (binaryOp op) r) (hf : Op2 X.K r f) (ha : PD X wx M W1 U1 a ea) (hb : PD X wx M W2 U2 c eb)
    (h1 : sb U2 M = true := by rfl) (h2 : sb W1 M = true := by rfl) (h3 : dj U2 W1 = true := by rfl) : PD X wx M (W1 ++ W2) (U1 ++ U2) (.BinOp a op c pos) (eBin f ea eb) := by
  refine pe_imp (pe_op ho ha hb) fun σ H Q ⟨δ, b, L, fin⟩ => ⟨δ, b, L, ?_⟩
  unfold eBin at fin
  cases e1 : ea δ with
  | bad => rw [e1] at fin; exact fin
  | exc c g x e' => rw [e1] at fin; exact fun cls dd H' L' g' ex => fin cls dd H' L' (g'.mono inl_app) ex
  | ok d δ1 =>
    rw [e1] at fin
    intro v H1 p
    refine ⟨δ1, b, p.loc, ?_⟩
    cases e2 : eb δ1 with
    | bad => simp only [R.bind, e2] at fin; exact fin
    | exc c g x e' => simp only [R.bind, e2] at fin; exact fun cls dd H' L' g' ex => fin cls dd H' L' (p.gr.trans g' inl_app inr_app) ex
    | ok d2 δ2 =>
      simp only [R.bind, e2] at fin
      intro v2 H2 p2
      cases e3 : f d d2 with
      | none => rw [e3] at fin; exact fin.elim
      | some z =>
        rw [e3] at fin
        exact hf _ H2 v v2 d d2 z Q ((p.rp.keep p.loc p2.gr h1 h2 h3).wide inl_app) (p2.rp.wide inr_app) e3 fun v' H' ex r' => fin_op fin p2.loc (p.gr.trans p2.gr inl_app inr_app) ex r'
/-- a comparison: its answer leans on nothing -/
def eCmp (f : PyData → PyData → Option Bool) (a b : Ev) : Ev := eBin (fun x y => (f x y).map .bool) a b
def Cm2 (K : PySem.W.Frag) (r : R2) (f : PyData → PyData → Option Bool) : Prop :=
  ∀ (H : Hp) (x y : V) (da db : PyData) (c : Bool) (Q : VK), Dp K H x da → Dp K H y db → f da db = some c → Q (.bl c) H → r x y H Q
theorem pd_cmp {op : CmpOp} {r : R2} {f : PyData → PyData → Option Bool} {a c : Expr} {ea eb : Ev} {pos : Pos} (ho : OpR X (compareOp op) r) (hf : Cm2 X.K r f) (ha : PD X wx M W1 U1 a ea) (hb : PD X wx M W2 U2 c eb)
    (hm : behindInMarks op c = false := by first | exact nomark _ | rfl) (h1 : sb U2 M = true := by rfl) (h2 : sb W1 M = true := by rfl) (h3 : dj U2 W1 = true := by rfl) : PD X wx M [] (U1 ++ U2) (.Compare a [op] [c] pos) (eCmp f ea eb) := by
  refine pe_imp (pe_cmpR ho ha hb hm) fun σ H Q ⟨δ, b, L, fin⟩ => ⟨δ, b, L, ?_⟩
  unfold eCmp eBin at fin
  cases e1 : ea δ with
  | bad => rw [e1] at fin; exact fin
  | exc c g x e' => rw [e1] at fin; exact fun cls dd H' L' g' ex => fin cls dd H' L' (g'.mono inl_app) ex
  | ok d δ1 =>
    rw [e1] at fin
    intro v H1 p
    refine ⟨δ1, b, p.loc, ?_⟩
    cases e2 : eb δ1 with
    | bad => simp only [R.bind, e2] at fin; exact fin
    | exc c g x e' => simp only [R.bind, e2] at fin; exact fun cls dd H' L' g' ex => fin cls dd H' L' (p.gr.trans g' inl_app inr_app) ex
    | ok d2 δ2 =>
      simp only [R.bind, e2] at fin
      intro v2 H2 p2
      cases e3 : f d d2 with
      | none => rw [e3] at fin; exact fin.elim
      | some z =>
        rw [e3] at fin
        exact hf H2 v v2 d d2 z Q (p.rp.keep p.loc p2.gr h1 h2 h3).dp p2.rp.dp e3 (fin (.bl z) H2 ⟨p2.loc, p.gr.trans p2.gr inl_app inr_app, .bl z⟩)
/-- one-place operations -/
def eUn (f : PyData → Option PyData) (a : Ev) : Ev := fun δ => (a δ).bind fun x δ1 => ofO (f x) δ1
def Op1 (K : PySem.W.Frag) (r : V → Hp → VK → Prop) (f : PyData → Option PyData) : Prop :=
  ∀ (S : Addr → Prop) (H : Hp) (x : V) (da d : PyData) (Q : VK), Rp K S H x da → f da = some d →
    (∀ v H', Ext H H' → Rp K (fun p => S p ∨ H p = none) H' v d → Q v H') → r x H Q
theorem pd_un {op : UnaryOp} {r : V → Hp → VK → Prop} {f : PyData → Option PyData} {a : Expr} {ea : Ev} {pos : Pos} (ho : UnR X (unaryOp op) r) (hf : Op1 X.K r f) (ha : PD X wx M W U a ea) : PD X wx M W U (.UnaryOp op a pos) (eUn f ea) := by
  refine pe_imp (pe_un ho ha) fun σ H Q ⟨δ, b, L, fin⟩ => ⟨δ, b, L, ?_⟩
  unfold eUn at fin
  cases e1 : ea δ with
  | bad => rw [e1] at fin; exact fin
  | exc c g x e' => rw [e1] at fin; exact fin
  | ok d δ1 =>
    rw [e1] at fin
    intro v H1 p
    cases e3 : f d with
    | none => simp only [R.bind, e3] at fin; exact fin.elim
    | some z =>
      simp only [R.bind, e3] at fin
      exact hf _ H1 v d z Q p.rp e3 fun v' H' ex r' => fin_op fin p.loc p.gr ex r'
/-- operations on lists of values: built-in functions, displays -/
def OpN (K : PySem.W.Frag) (r : List V → Hp → VK → Prop) (f : List PyData → Option PyData) : Prop :=
  ∀ (S : Addr → Prop) (H : Hp) (xs : List V) (ds : List PyData) (d : PyData) (Q : VK), RpA K S H xs ds → f ds = some d →
    (∀ v H', Ext H H' → Rp K (fun p => S p ∨ H p = none) H' v d → Q v H') → r xs H Q
def eApp (f : List PyData → Option PyData) (a : Env → R (List PyData)) : Ev := fun δ => (a δ).bind fun xs δ1 => ofO (f xs) δ1
theorem OpN.or {K : PySem.W.Frag} {r r' : List V → Hp → VK → Prop} {f f' : List PyData → Option PyData} (h : OpN K r f) (h' : OpN K r' f') : OpN K (fun xs H Q => r xs H Q ∨ r' xs H Q) (fun a => (f a).or (f' a)) := by
  intro S H xs ds d Q rx e q
  have e : (f ds).or (f' ds) = some d := e
  cases e1 : f ds with
  | none => rw [e1] at e; exact .inr (h' S H xs ds d Q rx (by simpa using e) q)
  | some z => rw [e1] at e; exact .inl (h S H xs ds d Q rx (by rw [e1]; simpa using e) q)
/-- the reading of an operation over arguments -/
theorem tD_app {r : List V → Hp → VK → Prop} {f : List PyData → Option PyData} {es : Env → R (List PyData)} {K : PySem.W.Frag} {mg : Str → Option Value} {σ : L2.St} {H : Hp} {Q : VK} (hf : OpN K r f)
    (h : tD K mg wx M W U (eApp f es) σ H Q) : tDA K mg wx M W U es σ H fun xs H1 => r xs H1 Q := by
  obtain ⟨δ, b, L, fin⟩ := h
  refine ⟨δ, b, L, ?_⟩
  unfold eApp at fin
  cases e1 : es δ with
  | bad => rw [e1] at fin; exact fin
  | exc c g x e' => rw [e1] at fin; exact fin
  | ok d δ1 =>
    rw [e1] at fin
    intro v H1 L1 g1 r1
    cases e3 : f d with
    | none => simp only [R.bind, e3] at fin; exact fin.elim
    | some z =>
      simp only [R.bind, e3] at fin
      exact hf _ H1 v d z Q r1 e3 fun v' H' ex r' => fin_op fin L1 g1 ex r'
theorem pd_blt {id : String} {r : List V → Hp → VK → Prop} {f : List PyData → Option PyData} {x : Str} {p pos : Pos} {e : Expr} {es : List Expr} {evs : Env → R (List PyData)} (hc : CallR X (.builtin id) r) (hf : OpN X.K r f) (hm : X.mg x = none) (hv : bootBuiltins x = some (.builtin id)) (ha : PAD X wx M W U (e :: es) evs)
    (hg : Gl X x := by rfl) (hn : x ≠ "__name__" := by decide) (hdb : (x == ("__debug__" : Str)) = false := by decide) (he : starEach (e :: es) X.env = (false, eval e X.env) :: starEach es X.env := by rfl) (hpl : (backTo pos (starEach es X.env)).any (·.1) = false := by rfl) :
    PD X wx M W U (.Call (.Name x p) (e :: es) [] pos) (eApp f evs) := pe_imp (pe_callB hc hg hm hv ha hn hdb he hpl) fun σ H Q h => tD_app hf h
theorem pd_typ {id : String} {r : List V → Hp → VK → Prop} {f : List PyData → Option PyData} {x : Str} {p pos : Pos} {e : Expr} {es : List Expr} {evs : Env → R (List PyData)} (hc : CallR X (.type id) r) (hf : OpN X.K r f) (hm : X.mg x = none) (hv : bootBuiltins x = some (.type id)) (ha : PAD X wx M W U (e :: es) evs)
    (hg : Gl X x := by rfl) (hn : x ≠ "__name__" := by decide) (hdb : (x == ("__debug__" : Str)) = false := by decide) (he : starEach (e :: es) X.env = (false, eval e X.env) :: starEach es X.env := by rfl) (hpl : (backTo pos (starEach es X.env)).any (·.1) = false := by rfl) :
    PD X wx M W U (.Call (.Name x p) (e :: es) [] pos) (eApp f evs) := pe_imp (pe_callTy hc hg hm hv ha hn hdb he hpl) fun σ H Q h => tD_app hf h
/-- displays -/
def fTup (ds : List PyData) : Option PyData := if ds.length ≤ 16777216 then some (.tuple ds) else none
def fLst (ds : List PyData) : Option PyData := if ds.length ≤ 16777216 then some (.list ds) else none
theorem opN_tup {K : PySem.W.Frag} : OpN K (fun xs H Q => xs.length ≤ sizeLine ∧ ∀ p, H p = none → Q (.ref p) (upd H p (.tup xs))) fTup := by
  intro S H xs ds d Q r e q
  unfold fTup at e
  split at e
  · rename_i hl
    cases e
    refine ⟨by rw [r.length, sizeLine_eq]; exact hl, fun p np => q _ _ (Ext.upd np) (.tup (.inl (.inl upd_same)) (r.ext (fun _ h => .inl h) (Ext.upd np)))⟩
  · cases e
theorem opN_lst {K : PySem.W.Frag} : OpN K (fun xs H Q => xs.length ≤ sizeLine ∧ ∀ p, H p = none → Q (.ref p) (upd H p (.lst xs))) fLst := by
  intro S H xs ds d Q r e q
  unfold fLst at e
  split at e
  · rename_i hl
    cases e
    refine ⟨by rw [r.length, sizeLine_eq]; exact hl, fun p np => q _ _ (Ext.upd np) (.lst (.inl ⟨.inr np, .inl upd_same⟩) (r.ext (fun _ h => .inl h) (Ext.upd np)))⟩
  · cases e
theorem pd_tup {es : List Expr} {evs : Env → R (List PyData)} {x1 pos} (h : PAD X wx M W U es evs) : PD X wx M W U (.Tuple es x1 pos) (eApp fTup evs) := pe_imp (pe_tup h) fun σ H Q h => tD_app opN_tup h
theorem pd_lst {es : List Expr} {evs : Env → R (List PyData)} {pos} (h : PAD X wx M W U es evs) : PD X wx M W U (.List es pos) (eApp fLst evs) := pe_imp (pe_lst h) fun σ H Q h => tD_app opN_lst h
/-- a value without lists leans on no cell -/
def eLF (ev : Ev) : Ev := fun δ => (ev δ).bind fun d δ1 => if lfree d = true then .ok d δ1 else .bad
theorem pd_lf {e : Expr} {ev : Ev} (h : PD X wx M W U e ev) : PD X wx M [] U e (eLF ev) :=
  pe_imp h fun σ H Q ⟨δ, b, L, fin⟩ => ⟨δ, b, L, by
    unfold eLF at fin
    cases e1 : ev δ with
    | bad => rw [e1] at fin; exact fin
    | exc c g x e' => rw [e1] at fin; exact fin
    | ok d δ1 =>
      rw [e1] at fin
      simp only [R.bind] at fin
      split at fin
      · rename_i hl
        exact fun v H1 p => fin v H1 ⟨p.loc, p.gr, p.rp.free hl⟩
      · exact fin.elim⟩
/-! ### tests -/
def FinT (K : PySem.W.Frag) (mg : Str → Option Value) (wx : WXs) (M U : List Nat) (b : Bs) (σ : L2.St) (H : Hp) (r : R Bool) (Q : Bool → Hp → Prop) : Prop :=
  match r with
  | .ok c δ' => ∀ H', Loc K M b σ H' δ' → Gr U σ H H' → Q c H'
  | .exc c f x δ' => ∀ cls dd H', Loc K M b σ H' δ' → Gr U σ H H' → ExcR K mg (Nb b) c f x cls dd H' → wx cls dd σ H'
  | .bad => False
def tDT (K : PySem.W.Frag) (mg : Str → Option Value) (wx : WXs) (M U : List Nat) (ev : Env → R Bool) : TT := fun σ H Q =>
  ∃ δ b, Loc K M b σ H δ ∧ FinT K mg wx M U b σ H (ev δ) Q
def PTD (X : Cx) (wx : WXs) (M U : List Nat) (e : Expr) (ev : Env → R Bool) : Prop := PT X e (tDT X.K X.mg wx M U ev)
def truD : PyData → Option Bool
  | .none => some false
  | .bool b => some b
  | .int i => some (i != 0)
  | .str s => if s.length ≤ 16777216 then some ((s.length : Int) != 0) else none
  | .list xs => some (!xs.isEmpty)
  | .tuple xs => some (!xs.isEmpty)
  | .dict _ => none
theorem dpall_empty {K H} : ∀ {vs ds}, DpAll K H vs ds → vs.isEmpty = ds.isEmpty
  | _, _, .nil => rfl
  | _, _, .cons _ _ => rfl
theorem tru_of {K H v d c} (h : Dp K H v d) (e : truD d = some c) : TruV K v H c := by
  cases h with
  | non => exact (Option.some.inj e).symm
  | bl b => exact (Option.some.inj e).symm
  | int i => exact (Option.some.inj e).symm
  | str x =>
    by_cases hl : x.length ≤ 16777216
    · rw [truD, if_pos hl] at e
      exact ⟨by rw [sizeLine_eq]; exact hl, (Option.some.inj e).symm⟩
    · rw [truD, if_neg hl] at e; cases e
  | lst h1 h2 => exact .inl ⟨_, h1, by rw [dpall_empty h2]; exact (Option.some.inj e).symm⟩
  | tup h1 h2 => exact .inr (.inl ⟨_, h1, by rw [dpall_empty h2]; exact (Option.some.inj e).symm⟩)
def tTru (ev : Ev) : Env → R Bool := fun δ => (ev δ).bind fun d δ1 => ofO (truD d) δ1
theorem ptd_val {e : Expr} {ev : Ev} (h : PD X wx M W U e ev) (he : ∀ whole, isTrue e X.env whole = (do let v ← whole; standAt e.pos; holding [v] (truthy v)) := by intro _; rfl) : PTD X wx M U e (tTru ev) := by
  refine pt_imp (pt_truth h he) fun σ H Q ⟨δ, b, L, fin⟩ => ⟨δ, b, L, ?_⟩
  unfold tTru at fin
  cases e1 : ev δ with
  | bad => rw [e1] at fin; exact fin
  | exc c g x e' => rw [e1] at fin; exact fin
  | ok d δ1 =>
    rw [e1] at fin
    intro v H1 p
    cases e3 : truD d with
    | none => simp only [R.bind, e3] at fin; exact fin.elim
    | some z =>
      simp only [R.bind, e3] at fin
      exact ⟨z, tru_of p.rp.dp e3, fin H1 p.loc p.gr⟩
def tCmp (f : PyData → PyData → Option Bool) (a b : Ev) : Env → R Bool := fun δ => (a δ).bind fun x δ1 => (b δ1).bind fun y δ2 => ofO (f x y) δ2
theorem ptd_cmp {op : CmpOp} {r : R2} {f : PyData → PyData → Option Bool} {a c : Expr} {ea eb : Ev} {pos : Pos} (ho : OpR X (compareOp op) r) (hf : Cm2 X.K r f) (ha : PD X wx M W1 U1 a ea) (hb : PD X wx M W2 U2 c eb)
    (hm : behindInMarks op c = false := by first | exact nomark _ | rfl) (h1 : sb U2 M = true := by rfl) (h2 : sb W1 M = true := by rfl) (h3 : dj U2 W1 = true := by rfl) : PTD X wx M (U1 ++ U2) (.Compare a [op] [c] pos) (BD.tCmp f ea eb) := by
  refine pt_imp (pt_cmpR ho ha hb hm) fun σ H Q ⟨δ, b, L, fin⟩ => ⟨δ, b, L, ?_⟩
  unfold BD.tCmp at fin
  cases e1 : ea δ with
  | bad => rw [e1] at fin; exact fin
  | exc c g x e' => rw [e1] at fin; exact fun cls dd H' L' g' ex => fin cls dd H' L' (g'.mono inl_app) ex
  | ok d δ1 =>
    rw [e1] at fin
    intro v H1 p
    refine ⟨δ1, b, p.loc, ?_⟩
    cases e2 : eb δ1 with
    | bad => simp only [R.bind, e2] at fin; exact fin
    | exc c g x e' => simp only [R.bind, e2] at fin; exact fun cls dd H' L' g' ex => fin cls dd H' L' (p.gr.trans g' inl_app inr_app) ex
    | ok d2 δ2 =>
      simp only [R.bind, e2] at fin
      intro v2 H2 p2
      cases e3 : f d d2 with
      | none => rw [e3] at fin; exact fin.elim
      | some z =>
        rw [e3] at fin
        exact hf H2 v v2 d d2 z _ (p.rp.keep p.loc p2.gr h1 h2 h3).dp p2.rp.dp e3 ⟨z, rfl, fin H2 p2.loc (p.gr.trans p2.gr inl_app inr_app)⟩
def tNo (t : Env → R Bool) : Env → R Bool := fun δ => (t δ).bind fun c δ1 => .ok (!c) δ1
theorem ptd_not {a : Expr} {ta : Env → R Bool} {pos : Pos} (ha : PTD X wx M U a ta) : PTD X wx M U (.UnaryOp .Not a pos) (tNo ta) := by
  refine pt_imp (pt_not ha) fun σ H Q ⟨δ, b, L, fin⟩ => ⟨δ, b, L, ?_⟩
  unfold tNo at fin
  cases e1 : ta δ with
  | bad => rw [e1] at fin; exact fin
  | exc c g x e' => rw [e1] at fin; exact fin
  | ok d δ1 => rw [e1] at fin; exact fun H1 L1 g1 => fin H1 L1 g1
/-- and, or as tests -/
def PWD (X : Cx) (wx : WXs) (M U : List Nat) (e : Expr) (ev : Env → R Bool) : Prop := PW X e (tDT X.K X.mg wx M U ev)
theorem PWD.pt {e : Expr} {ev : Env → R Bool} (h : PWD X wx M U e ev) : PTD X wx M U e ev := PW.pt h
theorem pw_imp {e : Expr} {t t' : TT} (h : PW X e t) (i : ∀ σ H Q, t' σ H Q → t σ H Q) : PW X e t' := ⟨fun wh pins s σ H Q I q => h.run wh pins s σ H Q I (i _ _ _ q)⟩
def tAn (t u : Env → R Bool) : Env → R Bool := fun δ => (t δ).bind fun c δ1 => if c = true then u δ1 else .ok false δ1
def tOr' (t u : Env → R Bool) : Env → R Bool := fun δ => (t δ).bind fun c δ1 => if c = true then .ok true δ1 else u δ1
theorem pwd_and1 {a : Expr} {ta : Env → R Bool} {pos : Pos} (ha : PTD X wx M U a ta) : PWD X wx M U (.BoolOp .And [a] pos) ta := pw_and1 ha
theorem pwd_or1 {a : Expr} {ta : Env → R Bool} {pos : Pos} (ha : PTD X wx M U a ta) : PWD X wx M U (.BoolOp .Or [a] pos) ta := pw_or1 ha
theorem pwd_and {a c : Expr} {rest : List Expr} {ta tb : Env → R Bool} {pos : Pos} (ha : PTD X wx M U1 a ta) (hb : PWD X wx M U2 (.BoolOp .And (c :: rest) pos) tb) : PWD X wx M (U1 ++ U2) (.BoolOp .And (a :: c :: rest) pos) (tAn ta tb) := by
  refine pw_imp (pw_and ha hb) fun σ H Q ⟨δ, b, L, fin⟩ => ⟨δ, b, L, ?_⟩
  unfold tAn at fin
  cases e1 : ta δ with
  | bad => rw [e1] at fin; exact fin
  | exc c g x e' => rw [e1] at fin; exact fun cls dd H' L' g' ex => fin cls dd H' L' (g'.mono inl_app) ex
  | ok d δ1 =>
    rw [e1] at fin
    intro H1 L1 g1
    cases d with
    | false => exact fin H1 L1 (g1.mono inl_app)
    | true =>
      refine ⟨δ1, b, L1, ?_⟩
      simp only [R.bind, if_true] at fin
      cases e2 : tb δ1 with
      | bad => rw [e2] at fin; exact fin
      | exc c g x e' => rw [e2] at fin; exact fun cls dd H' L' g' ex => fin cls dd H' L' (g1.trans g' inl_app inr_app) ex
      | ok d2 δ2 => rw [e2] at fin; exact fun H2 L2 g2 => fin H2 L2 (g1.trans g2 inl_app inr_app)
theorem pwd_or {a c : Expr} {rest : List Expr} {ta tb : Env → R Bool} {pos : Pos} (ha : PTD X wx M U1 a ta) (hb : PWD X wx M U2 (.BoolOp .Or (c :: rest) pos) tb) : PWD X wx M (U1 ++ U2) (.BoolOp .Or (a :: c :: rest) pos) (tOr' ta tb) := by
  refine pw_imp (pw_or ha hb) fun σ H Q ⟨δ, b, L, fin⟩ => ⟨δ, b, L, ?_⟩
  unfold tOr' at fin
  cases e1 : ta δ with
  | bad => rw [e1] at fin; exact fin
  | exc c g x e' => rw [e1] at fin; exact fun cls dd H' L' g' ex => fin cls dd H' L' (g'.mono inl_app) ex
  | ok d δ1 =>
    rw [e1] at fin
    intro H1 L1 g1
    cases d with
    | true => exact fin H1 L1 (g1.mono inl_app)
    | false =>
      refine ⟨δ1, b, L1, ?_⟩
      simp only [R.bind, Bool.false_eq_true, if_false] at fin
      cases e2 : tb δ1 with
      | bad => rw [e2] at fin; exact fin
      | exc c g x e' => rw [e2] at fin; exact fun cls dd H' L' g' ex => fin cls dd H' L' (g1.trans g' inl_app inr_app) ex
      | ok d2 δ2 => rw [e2] at fin; exact fun H2 L2 g2 => fin H2 L2 (g1.trans g2 inl_app inr_app)
end
end BD
namespace BD
open PySem PySem.Spec L2
section
variable {X : Cx} {wx : WXs} {M W W1 W2 W3 U U1 U2 U3 : List Nat}
/-! ### chains -/
def eChain (f g : PyData → PyData → Option Bool) (a b c : Ev) : Ev := fun δ => (a δ).bind fun x δ1 => (b δ1).bind fun y δ2 =>
  match f x y with
  | some true => (c δ2).bind fun z δ3 => ofO ((g y z).map .bool) δ3
  | some false => .ok (.bool false) δ2
  | none => .bad
theorem in_app1 {A B C : List Nat} : ∀ i ∈ A ++ B, i ∈ A ++ B ++ C := fun i h => List.mem_append_left _ h
theorem tD_chain {K : PySem.W.Frag} {mg : Str → Option Value} {r r' : R2} {f g : PyData → PyData → Option Bool} {ea eb ec : Ev} {σ : L2.St} {H : Hp} {Q : VK} (hf : Cm2 K r f) (hg : Cm2 K r' g)
    (h1 : sb U2 M = true) (h2 : sb W1 M = true) (h3 : dj U2 W1 = true) (h4 : sb U3 M = true) (h5 : sb W2 M = true) (h6 : dj U3 W2 = true)
    (h : tD K mg wx M [] (U1 ++ U2 ++ U3) (eChain f g ea eb ec) σ H Q) : tChain r r' (tD K mg wx M W1 U1 ea) (tD K mg wx M W2 U2 eb) (tD K mg wx M W3 U3 ec) σ H Q := by
  obtain ⟨δ, b, L, fin⟩ := h
  refine ⟨δ, b, L, ?_⟩
  unfold eChain at fin
  have i1 : ∀ i ∈ U1, i ∈ U1 ++ U2 ++ U3 := fun i h => in_app1 i (inl_app i h)
  cases e1 : ea δ with
  | bad => rw [e1] at fin; exact fin
  | exc c g x e' => rw [e1] at fin; exact fun cls dd H' L' g' ex => fin cls dd H' L' (g'.mono i1) ex
  | ok d δ1 =>
    rw [e1] at fin
    intro v H1 p
    refine ⟨δ1, b, p.loc, ?_⟩
    cases e2 : eb δ1 with
    | bad => simp only [R.bind, e2] at fin; exact fin
    | exc c g x e' => simp only [R.bind, e2] at fin; exact fun cls dd H' L' g' ex => fin cls dd H' L' (p.gr.trans g' i1 fun i h => in_app1 i (inr_app i h)) ex
    | ok d2 δ2 =>
      simp only [R.bind, e2] at fin
      intro v2 H2 p2
      have g12 : Gr (U1 ++ U2) σ H H2 := p.gr.trans p2.gr inl_app inr_app
      cases e3 : f d d2 with
      | none => rw [e3] at fin; exact fin.elim
      | some z =>
        rw [e3] at fin
        refine hf H2 v v2 d d2 z _ (p.rp.keep p.loc p2.gr h1 h2 h3).dp p2.rp.dp e3 ⟨z, rfl, ?_⟩
        cases z with
        | false =>
          simp only [Bool.false_eq_true, if_false]
          exact fin (.bl false) H2 ⟨p2.loc, g12.mono in_app1, .bl false⟩
        | true =>
          simp only [if_true]
          refine ⟨δ2, b, p2.loc, ?_⟩
          cases e4 : ec δ2 with
          | bad => rw [e4] at fin; exact fin
          | exc c g x e' => rw [e4] at fin; exact fun cls dd H' L' g' ex => fin cls dd H' L' (g12.trans g' in_app1 inr_app) ex
          | ok d3 δ3 =>
            rw [e4] at fin
            intro v3 H3 p3
            cases e5 : g d2 d3 with
            | none => simp only [R.bind, e5] at fin; exact fin.elim
            | some z2 =>
              simp only [R.bind, e5] at fin
              exact hg H3 v2 v3 d2 d3 z2 Q (p2.rp.keep p2.loc p3.gr h4 h5 h6).dp p3.rp.dp e5 (fin (.bl z2) H3 ⟨p3.loc, g12.trans p3.gr in_app1 inr_app, .bl z2⟩)
theorem pd_chain {op op' : CmpOp} {r r' : R2} {f g : PyData → PyData → Option Bool} {a c c' : Expr} {ea eb ec : Ev} {pos : Pos} (ho : OpR X (compareOp op) r) (hf : Cm2 X.K r f) (ho' : OpR X (compareOp op') r') (hg : Cm2 X.K r' g)
    (ha : PD X wx M W1 U1 a ea) (hb : PD X wx M W2 U2 c eb) (hc : PD X wx M W3 U3 c' ec) (hm : lastMarks [op, op'] [c, c'] = false := by with_unfolding_all rfl)
    (h1 : sb U2 M = true := by rfl) (h2 : sb W1 M = true := by rfl) (h3 : dj U2 W1 = true := by rfl) (h4 : sb U3 M = true := by rfl) (h5 : sb W2 M = true := by rfl) (h6 : dj U3 W2 = true := by rfl) :
    PD X wx M [] (U1 ++ U2 ++ U3) (.Compare a [op, op'] [c, c'] pos) (eChain f g ea eb ec) :=
  pe_imp (pe_chain ho ho' ha hb hc hm) fun σ H Q h => tD_chain hf hg h1 h2 h3 h4 h5 h6 h
theorem ptd_chain {op op' : CmpOp} {r r' : R2} {f g : PyData → PyData → Option Bool} {a c c' : Expr} {ea eb ec : Ev} {pos : Pos} (ho : OpR X (compareOp op) r) (hf : Cm2 X.K r f) (ho' : OpR X (compareOp op') r') (hg : Cm2 X.K r' g)
    (ha : PD X wx M W1 U1 a ea) (hb : PD X wx M W2 U2 c eb) (hc : PD X wx M W3 U3 c' ec) (hm : lastMarks [op, op'] [c, c'] = false := by with_unfolding_all rfl)
    (h1 : sb U2 M = true := by rfl) (h2 : sb W1 M = true := by rfl) (h3 : dj U2 W1 = true := by rfl) (h4 : sb U3 M = true := by rfl) (h5 : sb W2 M = true := by rfl) (h6 : dj U3 W2 = true := by rfl) :
    PTD X wx M (U1 ++ U2 ++ U3) (.Compare a [op, op'] [c, c'] pos) (tTru (eChain f g ea eb ec)) :=
  pt_imp (pt_chain ho ho' ha hb hc hm) fun σ H Q ⟨δ, b, L, fin⟩ => tD_chain (Q := fun x H' => ∃ k, x = .bl k ∧ Q k H') hf hg h1 h2 h3 h4 h5 h6 ⟨δ, b, L, by
    unfold tTru at fin
    have key : ∀ d δ', eChain f g ea eb ec δ = .ok d δ' → ∃ c, d = .bool c := fun d δ' e => by
      unfold eChain at e
      cases e1 : ea δ with
      | bad => rw [e1] at e; cases e
      | exc => rw [e1] at e; cases e
      | ok d1 δ1 =>
        rw [e1] at e
        cases e2 : eb δ1 with
        | bad => simp only [R.bind, e2] at e; cases e
        | exc => simp only [R.bind, e2] at e; cases e
        | ok d2 δ2 =>
          simp only [R.bind, e2] at e
          split at e
          · cases e4 : ec δ2 with
            | bad => rw [e4] at e; cases e
            | exc => rw [e4] at e; cases e
            | ok d3 δ3 =>
              rw [e4] at e
              cases e5 : g d2 d3 with
              | none => simp only [R.bind, e5] at e; cases e
              | some z2 => simp only [R.bind, e5] at e; cases e; exact ⟨_, rfl⟩
          · cases e; exact ⟨_, rfl⟩
          · cases e
    cases e : eChain f g ea eb ec δ with
    | bad => rw [e] at fin; exact fin
    | exc c g x e' => rw [e] at fin; exact fin
    | ok d δ' =>
      obtain ⟨c, rfl⟩ := key d δ' e
      rw [e] at fin
      intro v H' p
      cases p.rp
      exact ⟨c, rfl, fin H' p.loc p.gr⟩⟩
/-! ### a if t else b -/
def eIf (t : Env → R Bool) (a b : Ev) : Ev := fun δ => (t δ).bind fun c δ1 => if c = true then a δ1 else b δ1
theorem pd_if {c a b : Expr} {t : Env → R Bool} {ea eb : Ev} {pos : Pos} (hc : PTD X wx M U1 c t) (ha : PD X wx M W2 U2 a ea) (hb : PD X wx M W3 U3 b eb) : PD X wx M (W2 ++ W3) (U1 ++ U2 ++ U3) (.IfExp c a b pos) (eIf t ea eb) := by
  refine pe_imp (pe_ifExp hc ha hb) fun σ H Q ⟨δ, b, L, fin⟩ => ⟨δ, b, L, ?_⟩
  have i1 : ∀ i ∈ U1, i ∈ U1 ++ U2 ++ U3 := fun i h => in_app1 i (inl_app i h)
  have i2 : ∀ i ∈ U2, i ∈ U1 ++ U2 ++ U3 := fun i h => in_app1 i (inr_app i h)
  unfold eIf at fin
  cases e1 : t δ with
  | bad => rw [e1] at fin; exact fin
  | exc c g x e' => rw [e1] at fin; exact fun cls dd H' L' g' ex => fin cls dd H' L' (g'.mono i1) ex
  | ok d δ1 =>
    rw [e1] at fin
    intro H1 L1 g1
    cases d with
    | true =>
      simp only [if_true]
      simp only [R.bind, if_true] at fin
      refine ⟨δ1, b, L1, ?_⟩
      cases e2 : ea δ1 with
      | bad => rw [e2] at fin; exact fin
      | exc c g x e' => rw [e2] at fin; exact fun cls dd H' L' g' ex => fin cls dd H' L' (g1.trans g' i1 i2) ex
      | ok d2 δ2 => rw [e2] at fin; exact fun v H2 p => fin v H2 ⟨p.loc, g1.trans p.gr i1 i2, p.rp.wide inl_app⟩
    | false =>
      simp only [Bool.false_eq_true, if_false]
      simp only [R.bind, Bool.false_eq_true, if_false] at fin
      refine ⟨δ1, b, L1, ?_⟩
      cases e2 : eb δ1 with
      | bad => rw [e2] at fin; exact fin
      | exc c g x e' => rw [e2] at fin; exact fun cls dd H' L' g' ex => fin cls dd H' L' (g1.trans g' i1 inr_app) ex
      | ok d2 δ2 => rw [e2] at fin; exact fun v H2 p => fin v H2 ⟨p.loc, g1.trans p.gr i1 inr_app, p.rp.wide inr_app⟩
/-! ### and, or, not as values -/
def eAnd (a b : Ev) : Ev := fun δ => (a δ).bind fun x δ1 => match truD x with
  | some true => b δ1
  | some false => .ok x δ1
  | none => .bad
def eOr (a b : Ev) : Ev := fun δ => (a δ).bind fun x δ1 => match truD x with
  | some true => .ok x δ1
  | some false => b δ1
  | none => .bad
def eNot (a : Ev) : Ev := fun δ => (a δ).bind fun x δ1 => match x with
  | .bool c => .ok (.bool (!c)) δ1
  | _ => .bad
theorem pd_one {op} {a : Expr} {ea : Ev} {pos : Pos} (h : PD X wx M W U a ea) : PD X wx M W U (.BoolOp op [a] pos) ea := pe_one h
theorem pd_and {a c : Expr} {rest : List Expr} {ea eb : Ev} {pos : Pos} (ha : PD X wx M W1 U1 a ea) (hb : PD X wx M W2 U2 (.BoolOp .And (c :: rest) pos) eb) : PD X wx M (W1 ++ W2) (U1 ++ U2) (.BoolOp .And (a :: c :: rest) pos) (eAnd ea eb) := by
  refine pe_imp (pe_andT ha hb) fun σ H Q ⟨δ, b, L, fin⟩ => ⟨δ, b, L, ?_⟩
  unfold eAnd at fin
  cases e1 : ea δ with
  | bad => rw [e1] at fin; exact fin
  | exc c g x e' => rw [e1] at fin; exact fun cls dd H' L' g' ex => fin cls dd H' L' (g'.mono inl_app) ex
  | ok d δ1 =>
    rw [e1] at fin
    intro v H1 p
    simp only [R.bind] at fin
    cases e2 : truD d with
    | none => rw [e2] at fin; exact fin.elim
    | some k =>
      rw [e2] at fin
      refine ⟨k, tru_of p.rp.dp e2, ?_⟩
      cases k with
      | false =>
        simp only [Bool.false_eq_true, if_false]
        exact fin v H1 ⟨p.loc, p.gr.mono inl_app, p.rp.wide inl_app⟩
      | true =>
        simp only [if_true]
        refine ⟨δ1, b, p.loc, ?_⟩
        cases e3 : eb δ1 with
        | bad => rw [e3] at fin; exact fin
        | exc c g x e' => rw [e3] at fin; exact fun cls dd H' L' g' ex => fin cls dd H' L' (p.gr.trans g' inl_app inr_app) ex
        | ok d2 δ2 => rw [e3] at fin; exact fun v H2 p2 => fin v H2 ⟨p2.loc, p.gr.trans p2.gr inl_app inr_app, p2.rp.wide inr_app⟩
theorem pd_or {a c : Expr} {rest : List Expr} {ea eb : Ev} {pos : Pos} (ha : PD X wx M W1 U1 a ea) (hb : PD X wx M W2 U2 (.BoolOp .Or (c :: rest) pos) eb) : PD X wx M (W1 ++ W2) (U1 ++ U2) (.BoolOp .Or (a :: c :: rest) pos) (eOr ea eb) := by
  refine pe_imp (pe_orT ha hb) fun σ H Q ⟨δ, b, L, fin⟩ => ⟨δ, b, L, ?_⟩
  unfold eOr at fin
  cases e1 : ea δ with
  | bad => rw [e1] at fin; exact fin
  | exc c g x e' => rw [e1] at fin; exact fun cls dd H' L' g' ex => fin cls dd H' L' (g'.mono inl_app) ex
  | ok d δ1 =>
    rw [e1] at fin
    intro v H1 p
    simp only [R.bind] at fin
    cases e2 : truD d with
    | none => rw [e2] at fin; exact fin.elim
    | some k =>
      rw [e2] at fin
      refine ⟨k, tru_of p.rp.dp e2, ?_⟩
      cases k with
      | true =>
        simp only [if_true]
        exact fin v H1 ⟨p.loc, p.gr.mono inl_app, p.rp.wide inl_app⟩
      | false =>
        simp only [Bool.false_eq_true, if_false]
        refine ⟨δ1, b, p.loc, ?_⟩
        cases e3 : eb δ1 with
        | bad => rw [e3] at fin; exact fin
        | exc c g x e' => rw [e3] at fin; exact fun cls dd H' L' g' ex => fin cls dd H' L' (p.gr.trans g' inl_app inr_app) ex
        | ok d2 δ2 => rw [e3] at fin; exact fun v H2 p2 => fin v H2 ⟨p2.loc, p.gr.trans p2.gr inl_app inr_app, p2.rp.wide inr_app⟩
theorem pd_not {a : Expr} {ea : Ev} {pos : Pos} (ha : PD X wx M W U a ea) : PD X wx M [] U (.UnaryOp .Not a pos) (eNot ea) := by
  refine pe_imp (pe_not ha) fun σ H Q ⟨δ, b, L, fin⟩ => ⟨δ, b, L, ?_⟩
  unfold eNot at fin
  cases e1 : ea δ with
  | bad => rw [e1] at fin; exact fin
  | exc c g x e' => rw [e1] at fin; exact fin
  | ok d δ1 =>
    rw [e1] at fin
    intro v H1 p
    simp only [R.bind] at fin
    cases d with
    | bool c =>
      cases p.rp
      exact ⟨c, rfl, fin (.bl (!c)) H1 ⟨p.loc, p.gr, .bl _⟩⟩
    | _ => exact fin.elim
/-! ### subscripts -/
def atD : PyData → PyData → Option PyData
  | .list xs, .int i => atI xs i
  | .tuple xs, .int i => atI xs i
  | .str z, .int i => if z.length ≤ 16777216 then (atI z.cps.toList i).map fun c => .str ⟨#[c]⟩ else none
  | _, _ => none
theorem atI_pair {K S H vs ds i d} (r : RpA K S H vs ds) (e : atI ds i = some d) : ∃ v, atI vs i = some v ∧ Rp K S H v d := by
  unfold atI at e ⊢
  rw [r.length]
  cases h : ixN ds.length i with
  | none => rw [h] at e; cases e
  | some j =>
    rw [h] at e
    obtain ⟨v, h1, h2⟩ := r.get' (i := j) (d := d) e
    exact ⟨v, h1, h2⟩
theorem op2_ix {K : PySem.W.Frag} : Op2 K (rIx K) atD := by
  intro S H x y da db d Q rx ry e q
  cases rx with
  | lst h t =>
    cases ry with
    | int i =>
      obtain ⟨v, h1, h2⟩ := atI_pair t e
      exact .inl ⟨_, _, _, v, rfl, rfl, h.sq, h1, q v H (Ext.refl H) (h2.ext (fun _ h => .inl h) (Ext.refl H))⟩
    | _ => simp [atD] at e
  | tup h t =>
    cases ry with
    | int i =>
      obtain ⟨v, h1, h2⟩ := atI_pair t e
      exact .inr (.inl ⟨_, _, _, v, rfl, rfl, h, h1, q v H (Ext.refl H) (h2.ext (fun _ h => .inl h) (Ext.refl H))⟩)
    | _ => simp [atD] at e
  | str z =>
    cases ry with
    | int i =>
      by_cases hz : z.length ≤ 16777216
      · rw [atD, if_pos hz] at e
        cases h : atI z.cps.toList i with
        | none => rw [h] at e; cases e
        | some c =>
          rw [h] at e
          cases e
          exact .inr (.inr ⟨z, i, c, rfl, rfl, by rw [sizeLine_eq]; exact hz, h, q _ H (Ext.refl H) (.str _)⟩)
      · rw [atD, if_neg hz] at e; cases e
    | _ => simp [atD] at e
  | _ => cases ry <;> simp [atD] at e
theorem pd_ix {a c : Expr} {ea eb : Ev} {pos : Pos} (ha : PD X wx M W1 U1 a ea) (hb : PD X wx M W2 U2 c eb) (hs : PlainIx c := by exact fun _ _ => rfl)
    (h1 : sb U2 M = true := by rfl) (h2 : sb W1 M = true := by rfl) (h3 : dj U2 W1 = true := by rfl) : PD X wx M (W1 ++ W2) (U1 ++ U2) (.Subscript a c pos) (eBin atD ea eb) := by
  refine pe_imp (pe_ix ix_seq ha hb hs) fun σ H Q ⟨δ, b, L, fin⟩ => ⟨δ, b, L, ?_⟩
  unfold eBin at fin
  cases e1 : ea δ with
  | bad => rw [e1] at fin; exact fin
  | exc c g x e' => rw [e1] at fin; exact fun cls dd H' L' g' ex => fin cls dd H' L' (g'.mono inl_app) ex
  | ok d δ1 =>
    rw [e1] at fin
    intro v H1 p
    refine ⟨δ1, b, p.loc, ?_⟩
    cases e2 : eb δ1 with
    | bad => simp only [R.bind, e2] at fin; exact fin
    | exc c g x e' => simp only [R.bind, e2] at fin; exact fun cls dd H' L' g' ex => fin cls dd H' L' (p.gr.trans g' inl_app inr_app) ex
    | ok d2 δ2 =>
      simp only [R.bind, e2] at fin
      intro v2 H2 p2
      cases e3 : atD d d2 with
      | none => rw [e3] at fin; exact fin.elim
      | some z =>
        rw [e3] at fin
        exact op2_ix _ H2 v v2 d d2 z Q ((p.rp.keep p.loc p2.gr h1 h2 h3).wide inl_app) (p2.rp.wide inr_app) e3 fun v' H' ex r' => fin_op fin p2.loc (p.gr.trans p2.gr inl_app inr_app) ex r'
/-! ### slices -/
def ePart (a : Ev) : Env → R (Option Int) := fun δ => (a δ).bind fun x δ1 => match x with
  | .int i => .ok (some i) δ1
  | _ => .bad
def eNoPart : Env → R (Option Int) := fun δ => .ok none δ
def FinO (K : PySem.W.Frag) (mg : Str → Option Value) (wx : WXs) (M U : List Nat) (b : Bs) (σ : L2.St) (H : Hp) (r : R (Option Int)) (Q : Option Int → Hp → Prop) : Prop :=
  match r with
  | .ok c δ' => ∀ H', Loc K M b σ H' δ' → Gr U σ H H' → Q c H'
  | .exc c f x δ' => ∀ cls dd H', Loc K M b σ H' δ' → Gr U σ H H' → ExcR K mg (Nb b) c f x cls dd H' → wx cls dd σ H'
  | .bad => False
def POD (X : Cx) (wx : WXs) (M U : List Nat) (e : Option Expr) (ev : Env → R (Option Int)) : Prop := PO X e fun σ H Q => ∃ δ b, Loc X.K M b σ H δ ∧ FinO X.K X.mg wx M U b σ H (ev δ) Q
theorem po_imp {e : Option Expr} {t t' : TO} (h : PO X e t) (i : ∀ σ H Q, t' σ H Q → t σ H Q) : PO X e t' := ⟨fun pins s σ H Q I q => h.run pins s σ H Q I (i _ _ _ q)⟩
theorem pod_none : POD X wx M [] none eNoPart := po_imp po_none fun σ H Q ⟨δ, b, L, fin⟩ => fin H L (Gr.refl _ _ _)
theorem pod_some {e : Expr} {ev : Ev} (h : PD X wx M W U e ev) : POD X wx M U (some e) (ePart ev) := po_imp (po_some h) fun σ H Q ⟨δ, b, L, fin⟩ => ⟨δ, b, L, by
  unfold ePart at fin
  cases e1 : ev δ with
  | bad => rw [e1] at fin; exact fin
  | exc c g x e' => rw [e1] at fin; exact fin
  | ok d δ1 =>
    rw [e1] at fin
    intro v H1 p
    cases d with
    | int i =>
      cases p.rp
      exact ⟨i, rfl, fin H1 p.loc p.gr⟩
    | _ => exact fin.elim⟩
def cutL {α : Type} (xs : List α) (lo hi : Option Int) : List α := (xs.drop (HT.sIx xs.length 0 lo)).take (HT.sIx xs.length xs.length hi - HT.sIx xs.length 0 lo)
def slD : PyData → Option Int → Option Int → Option PyData
  | .list xs, lo, hi => some (.list (cutL xs lo hi))
  | .tuple xs, lo, hi => some (.tuple (cutL xs lo hi))
  | _, _, _ => none
def eSl (a : Ev) (l h : Env → R (Option Int)) : Ev := fun δ => (a δ).bind fun x δ1 => (l δ1).bind fun lo δ2 => (h δ2).bind fun hi δ3 => ofO (slD x lo hi) δ3
def rSlAny (K : PySem.W.Frag) : V → Option Int → Option Int → Hp → VK → Prop := fun x lo hi H Q => rSlL K x lo hi H Q ∨ rSlA K x lo hi H Q
theorem cut_whole {α : Type} (xs : List α) (lo hi : Option Int) (h : HT.sIx xs.length 0 lo = 0 ∧ HT.sIx xs.length xs.length hi = xs.length) : cutL xs lo hi = xs := by
  unfold cutL
  rw [h.1, h.2]
  simp
theorem pd_slice {e : Expr} {lo hi : Option Expr} {ea : Ev} {el eh : Env → R (Option Int)} {p2 pos : Pos} (he : PD X wx M W1 U1 e ea) (hl : POD X wx M U2 lo el) (hh : POD X wx M U3 hi eh)
    (h1 : sb U2 M = true := by rfl) (h2 : sb W1 M = true := by rfl) (h3 : dj U2 W1 = true := by rfl) (h4 : sb U3 M = true := by rfl) (h6 : dj U3 W1 = true := by rfl) :
    PD X wx M W1 (U1 ++ U2 ++ U3) (.Subscript e (.Slice lo hi none p2) pos) (eSl ea el eh) := by
  refine pe_imp (pe_slice (sl_list.or sl_tupA) he hl hh) fun σ H Q ⟨δ, b, L, fin⟩ => ⟨δ, b, L, ?_⟩
  have i1 : ∀ i ∈ U1, i ∈ U1 ++ U2 ++ U3 := fun i h => in_app1 i (inl_app i h)
  unfold eSl at fin
  cases e1 : ea δ with
  | bad => rw [e1] at fin; exact fin
  | exc c g x e' => rw [e1] at fin; exact fun cls dd H' L' g' ex => fin cls dd H' L' (g'.mono i1) ex
  | ok d δ1 =>
    rw [e1] at fin
    intro v H1 p
    refine ⟨δ1, b, p.loc, ?_⟩
    cases e2 : el δ1 with
    | bad => simp only [R.bind, e2] at fin; exact fin
    | exc c g x e' => simp only [R.bind, e2] at fin; exact fun cls dd H' L' g' ex => fin cls dd H' L' (p.gr.trans g' i1 fun i h => in_app1 i (inr_app i h)) ex
    | ok l δ2 =>
      simp only [R.bind, e2] at fin
      intro H2 L2 g2
      have g12 : Gr (U1 ++ U2) σ H H2 := p.gr.trans g2 inl_app inr_app
      refine ⟨δ2, b, L2, ?_⟩
      cases e3 : eh δ2 with
      | bad => rw [e3] at fin; exact fin
      | exc c g x e' => rw [e3] at fin; exact fun cls dd H' L' g' ex => fin cls dd H' L' (g12.trans g' in_app1 inr_app) ex
      | ok u δ3 =>
        rw [e3] at fin
        intro H3 L3 g3
        have r3 := (p.rp.keep p.loc g2 h1 h2 h3).keep L2 g3 h4 h2 h6
        have g13 : Gr (U1 ++ U2 ++ U3) σ H H3 := g12.trans g3 in_app1 inr_app
        cases r3 with
        | @lst a xs ds hs ht =>
          refine .inl ⟨a, xs, rfl, hs.sq, fun q nq => fin_op fin L3 g13 (Ext.upd nq) (.lst (.inl ⟨.inr nq, .inl upd_same⟩) ?_)⟩
          have := (ht.drop (HT.sIx xs.length 0 l)).take (HT.sIx xs.length xs.length u - HT.sIx xs.length 0 l)
          rw [ht.length] at this
          unfold cutV
          rw [ht.length]
          exact this.ext (fun _ h => .inl h) (Ext.upd nq)
        | @tup a xs ds hs ht =>
          have hc := (ht.drop (HT.sIx xs.length 0 l)).take (HT.sIx xs.length xs.length u - HT.sIx xs.length 0 l)
          refine .inr ⟨a, xs, rfl, hs, fun hw => ?_, fun hw q nq => fin_op fin L3 g13 (Ext.upd nq) (.tup (.inl (.inl upd_same)) ?_)⟩
          · refine fin_op fin L3 g13 (Ext.refl _) ?_
            rw [cut_whole ds l u (by rw [← ht.length]; exact hw)]
            exact (Rp.tup hs ht).mono (fun _ h => .inl h) (Ext.refl _).kp
          · rw [ht.length] at hc
            unfold cutV
            rw [ht.length]
            exact hc.ext (fun _ h => .inl h) (Ext.upd nq)
        | _ => exact fin.elim
/-! ### fresh lists -/
def bz (b : Bs) (p : Addr) : Bs := { b with Z := fun q => b.Z q ∨ q = p }
structure PostF (K : PySem.W.Frag) (M U : List Nat) (b : Bs) (σ : L2.St) (H : Hp) (δ' : Env) (d : PyData) (v : V) (H' : Hp) : Prop where
  ex : ∃ p vs ds, v = .ref p ∧ d = .list ds ∧ H p = none ∧ H' p = some (.lst vs) ∧ Loc K M (bz b p) σ H' δ' ∧ RpA K (Sb M (bz b p) σ) H' vs ds
  gr : Gr U σ H H'
def FinF (K : PySem.W.Frag) (mg : Str → Option Value) (wx : WXs) (M U : List Nat) (b : Bs) (σ : L2.St) (H : Hp) (r : R PyData) (Q : VK) : Prop :=
  match r with
  | .ok d δ' => ∀ v H', PostF K M U b σ H δ' d v H' → Q v H'
  | .exc c f x δ' => ∀ cls dd H', Loc K M b σ H' δ' → Gr U σ H H' → ExcR K mg (Nb b) c f x cls dd H' → wx cls dd σ H'
  | .bad => False
def tDF (K : PySem.W.Frag) (mg : Str → Option Value) (wx : WXs) (M U : List Nat) (ev : Ev) : TE := fun σ H Q =>
  ∃ δ b, Loc K M b σ H δ ∧ FinF K mg wx M U b σ H (ev δ) Q
def PFD (X : Cx) (wx : WXs) (M U : List Nat) (e : Expr) (ev : Ev) : Prop := PE X e (tDF X.K X.mg wx M U ev)
theorem Loc.b_eq {K : PySem.W.Frag} {M : List Nat} {b b' : Bs} {σ : L2.St} {H : Hp} {δ : Env} (L : Loc K M b σ H δ) (e1 : b'.B = b.B) (e2 : b'.Rm = b.Rm) (e3 : b'.rf = b.rf) (hS : ∀ p, Sb M b σ p → Sb M b' σ p) (hz : ∀ p, b'.Z p → b.Z p) : Loc K M b' σ H δ where
  trk := by rw [e1]; exact L.trk
  fr := by rw [e1, e2]; exact L.fr
  tp := by rw [e1]; exact L.tp
  imm := fun i hi => by
    have q := L.imm i hi
    revert q
    cases σ[i]? with
    | none => cases δ[i]? with
      | none => exact id
      | some u => cases u <;> exact id
    | some o => cases δ[i]? with
      | none => cases o <;> exact id
      | some u => cases o with
        | none => cases u <;> exact id
        | some v => cases u with
          | none => exact id
          | some d => exact fun (q : RpS K _ H v d) => q.mono hS (Ext.refl H).kp
  mu := fun i hi => by
    have q := L.mu i hi
    revert q
    cases σ[i]? with
    | none => cases δ[i]? with
      | none => exact id
      | some u => cases u <;> exact id
    | some o => cases δ[i]? with
      | none => cases o <;> exact id
      | some u => cases o with
        | none => cases u <;> exact id
        | some v => cases u with
          | none => exact id
          | some d =>
            rintro ⟨p, vs, ds, h1, h2, h3, h4, h5, h6⟩
            exact ⟨p, vs, ds, h1, h2, h3, h4.mono hS (Ext.refl H).kp, by rw [e1, e2]; exact h5, fun z => h6 (hz p z)⟩
  inj := L.inj
  rfs := by rw [e2, e3]; exact L.rfs
  zT := fun p h => L.zT p (hz p h)
  zB := fun p o h z => L.zB p o (by rw [e1] at h; exact h) (hz p z)
theorem Loc.unhide {K : PySem.W.Frag} {M : List Nat} {b : Bs} {σ : L2.St} {H : Hp} {δ : Env} {p : Addr} (L : Loc K M (bz b p) σ H δ) : Loc K M b σ H δ :=
  L.b_eq rfl rfl rfl (fun q h => ⟨h.1, fun z => h.2.1 (.inl z), h.2.2⟩) fun q z => .inl z
/-- a hidden list is no cell, and new -/
theorem Loc.hid {K : PySem.W.Frag} {M : List Nat} {b : Bs} {σ : L2.St} {H H' : Hp} {δ δ' : Env} {p : Addr} (L : Loc K M b σ H δ) (h : H p = none) (L' : Loc K M (bz b p) σ H' δ') : Sb M b σ p := L.nw (fun _ h => h) h
theorem pd_fresh {e : Expr} {ev : Ev} (h : PFD X wx M U e ev) : PD X wx M [] U e ev := pe_imp h fun σ H Q ⟨δ, b, L, fin⟩ => ⟨δ, b, L, by
  cases e1 : ev δ with
  | bad => rw [e1] at fin; exact fin
  | exc c g x e' => rw [e1] at fin; exact fin
  | ok d δ1 =>
    rw [e1] at fin
    intro v H1 ⟨⟨p, vs, ds, e2, e3, np, hp, L1, r⟩, g⟩
    subst e2 e3
    exact fin _ H1 ⟨L1.unhide, g, .lst (.inl ⟨.inr (L.hid np L1), .inl hp⟩) (r.mono (fun q h => .inr ⟨h.1, fun z => h.2.1 (.inl z), h.2.2⟩) (Ext.refl _).kp)⟩⟩
/-- fresh by an operation that makes a list of given items -/
def OpF (K : PySem.W.Frag) (r : List V → Hp → VK → Prop) (f : List PyData → Option (List PyData)) : Prop :=
  ∀ (S : Addr → Prop) (H : Hp) (xs : List V) (ds es : List PyData) (Q : VK), RpA K S H xs ds → f ds = some es →
    (∀ p vs, H p = none → RpA K S H vs es → Q (.ref p) (upd H p (.lst vs))) → r xs H Q
theorem Loc.fresh {K : PySem.W.Frag} {M : List Nat} {b : Bs} {σ : L2.St} {H : Hp} {δ : Env} {p : Addr} {vs : List V} (L : Loc K M b σ H δ) (np : H p = none) : Loc K M (bz b p) σ (upd H p (.lst vs)) δ := by
  have L1 := L.ext (Ext.upd (o := .lst vs) np)
  have nS : ∀ {v d}, Rp K (Sb M b σ) H v d → Rp K (Sb M (bz b p) σ) (upd H p (.lst vs)) v d := fun {v d} r => by
    have key : Rp K (fun q => Sb M b σ q ∧ H q ≠ none) H v d := by
      refine Rp.rec (motive_1 := fun v d _ => Rp K (fun q => Sb M b σ q ∧ H q ≠ none) H v d) (motive_2 := fun v d _ => RpA K (fun q => Sb M b σ q ∧ H q ≠ none) H v d) .non .bl .int .str (fun {a xs ds} h _ t => .lst ?_ t) (fun h _ t => .tup h t) .nil (fun _ _ a b => .cons a b) r
      rcases h with ⟨s, h⟩ | h
      · exact .inl ⟨⟨s, by rcases h with h | ⟨o, h⟩ <;> rw [h] <;> simp⟩, h⟩
      · exact .inr h
    refine key.mono (fun q h => ⟨h.1.1, ?_, h.1.2.2⟩) (Ext.upd np).kp
    rintro (z | z)
    · exact h.1.2.1 z
    · exact h.2 (by rw [z]; exact np)
  have nSS : ∀ {v d}, RpS K (Sb M b σ) H v d → RpS K (Sb M (bz b p) σ) (upd H p (.lst vs)) v d := fun {v d} r => by
    refine r.trk.mono (fun q h => ⟨h.1.1, ?_, h.1.2.2⟩) (Ext.upd np).kp
    rintro (z | z)
    · exact h.1.2.1 z
    · obtain ⟨o, e⟩ := h.2
      rw [z, np] at e
      cases e
  have nSA : ∀ {v d}, RpA K (Sb M b σ) H v d → RpA K (Sb M (bz b p) σ) (upd H p (.lst vs)) v d := fun {v d} r => by
    refine RpA.rec (motive_1 := fun v d _ => Rp K (Sb M (bz b p) σ) (upd H p (.lst vs)) v d) (motive_2 := fun v d _ => RpA K (Sb M (bz b p) σ) (upd H p (.lst vs)) v d) .non .bl .int .str (fun {a xs ds} h _ t => .lst ?_ t) (fun {a xs ds} h _ t => .tup (sqT_mono h (Ext.upd np).kp (S := fun _ => True)) t) .nil (fun _ _ a b => .cons a b) r
    rcases h with ⟨s, h⟩ | h
    · refine .inl ⟨⟨s.1, ?_, s.2.2⟩, (Ext.upd np).rd h⟩
      rintro (z | z)
      · exact s.2.1 z
      · subst z
        rcases h with h | ⟨o, h⟩ <;> (rw [np] at h; cases h)
    · exact .inr h
  refine ⟨L1.trk, L1.fr, L1.tp, fun i hi => ?_, fun i hi => ?_, L.inj, L.rfs, fun q z => ?_, fun q o h z => ?_⟩
  · have q := L.imm i hi
    revert q
    cases σ[i]? with
    | none => cases δ[i]? with
      | none => exact id
      | some u => cases u <;> exact id
    | some o => cases δ[i]? with
      | none => cases o <;> exact id
      | some u => cases o with
        | none => cases u <;> exact id
        | some v => cases u with
          | none => exact id
          | some d => exact fun q => nSS q
  · have q := L.mu i hi
    revert q
    cases σ[i]? with
    | none => cases δ[i]? with
      | none => exact id
      | some u => cases u <;> exact id
    | some o => cases δ[i]? with
      | none => cases o <;> exact id
      | some u => cases o with
        | none => cases u <;> exact id
        | some v => cases u with
          | none => exact id
          | some d =>
            rintro ⟨a, vs', ds, h1, h2, h3, h4, h5, h6⟩
            have na : a ≠ p := ne_of_none h3 np
            refine ⟨a, vs', ds, h1, h2, ?_, nSA h4, h5, ?_⟩
            · rw [upd_ne na]; exact h3
            · rintro (z | z)
              · exact h6 z
              · exact na z
  · rcases z with z | z
    · exact L1.zT q z
    · subst z; exact ⟨vs, upd_same⟩
  · rcases z with z | z
    · exact L.zB q o h z
    · subst z
      obtain ⟨o', h'⟩ := L.trk _ _ h
      rw [np] at h'; cases h'
theorem Rp.hide {K : PySem.W.Frag} {M : List Nat} {b : Bs} {σ : L2.St} {H : Hp} {p : Addr} {o : HO} {vs ds} (np : H p = none) (r : RpA K (Sb M b σ) H vs ds) : RpA K (Sb M (bz b p) σ) (upd H p o) vs ds := by
  refine RpA.rec (motive_1 := fun v d _ => Rp K (Sb M (bz b p) σ) (upd H p o) v d) (motive_2 := fun v d _ => RpA K (Sb M (bz b p) σ) (upd H p o) v d) .non .bl .int .str (fun {a xs ds} h _ t => .lst ?_ t) (fun {a xs ds} h _ t => .tup (sqT_mono h (Ext.upd np).kp (S := fun _ => True)) t) .nil (fun _ _ a b => .cons a b) r
  rcases h with ⟨s, h⟩ | h
  · refine .inl ⟨⟨s.1, ?_, s.2.2⟩, (Ext.upd np).rd h⟩
    rintro (z | z)
    · exact s.2.1 z
    · subst z
      rcases h with h | ⟨o, h⟩ <;> (rw [np] at h; cases h)
  · exact .inr h
theorem Gr.none {U : List Nat} {σ : L2.St} {H H1 : Hp} {b : Bs} {K M δ} (g : Gr U σ H H1) (L : Loc K M b σ H1 δ) (s : ∀ i ∈ U, i ∈ M) {p : Addr} (h : H1 p = none) : H p = none := by
  cases q : H p with
  | none => rfl
  | some o =>
    by_cases c : Cl U σ p
    · obtain ⟨o', e⟩ := L.cell (c.sub s)
      rw [h] at e; cases e
    · rw [g p o q c] at h; cases h
theorem finF_op {K : PySem.W.Frag} {mg : Str → Option Value} {b : Bs} {σ : L2.St} {H H1 : Hp} {δ' : Env} {ds : List PyData} {vs : List V} {p : Addr} {Q : VK} (f : FinF K mg wx M U b σ H (.ok (.list ds) δ') Q) (L : Loc K M b σ H1 δ') (g : Gr U σ H H1)
    (s : sb U M = true) (np : H1 p = none) (r : RpA K (SW M [] b σ) H1 vs ds) : Q (.ref p) (upd H1 p (.lst vs)) :=
  f _ _ ⟨⟨p, vs, ds, rfl, rfl, g.none L (sb_of s) np, upd_same, L.fresh np, Rp.hide np (r.mono (fun _ h => h.nil) (Ext.refl _).kp)⟩, g.trans (Gr.ext (Ext.upd np)) (fun _ h => h) (fun _ (h : _ ∈ ([] : List Nat)) => by simp at h)⟩
def eAppF (f : List PyData → Option (List PyData)) (a : Env → R (List PyData)) : Ev := fun δ => (a δ).bind fun xs δ1 => ofO ((f xs).map .list) δ1
theorem tD_appF {r : List V → Hp → VK → Prop} {f : List PyData → Option (List PyData)} {es : Env → R (List PyData)} {K : PySem.W.Frag} {mg : Str → Option Value} {σ : L2.St} {H : Hp} {Q : VK} (hf : OpF K r f) (hW : W.isEmpty = true) (hU : sb U M = true)
    (h : tDF K mg wx M U (eAppF f es) σ H Q) : tDA K mg wx M W U es σ H fun xs H1 => r xs H1 Q := by
  have hW : W = [] := by simpa using hW
  subst hW
  obtain ⟨δ, b, L, fin⟩ := h
  refine ⟨δ, b, L, ?_⟩
  unfold eAppF at fin
  cases e1 : es δ with
  | bad => rw [e1] at fin; exact fin
  | exc c g x e' => rw [e1] at fin; exact fin
  | ok d δ1 =>
    rw [e1] at fin
    intro v H1 L1 g1 r1
    cases e3 : f d with
    | none => simp only [R.bind, e3] at fin; exact fin.elim
    | some z =>
      simp only [R.bind, e3] at fin
      exact hf _ H1 v d z Q r1 e3 fun p vs np rv => finF_op fin L1 g1 hU np rv
def fId (ds : List PyData) : Option (List PyData) := if ds.length ≤ 16777216 then some ds else none
theorem opF_lst {K : PySem.W.Frag} : OpF K (fun xs H Q => xs.length ≤ sizeLine ∧ ∀ p, H p = none → Q (.ref p) (upd H p (.lst xs))) fId := by
  intro S H xs ds es Q r e q
  unfold fId at e
  split at e
  · rename_i hl
    cases e
    exact ⟨by rw [r.length, sizeLine_eq]; exact hl, fun p np => q p xs np r⟩
  · cases e
theorem pfd_lst {es : List Expr} {evs : Env → R (List PyData)} {pos} (h : PAD X wx M W U es evs) (hW : W.isEmpty = true := by rfl) (hU : sb U M = true := by rfl) : PFD X wx M U (.List es pos) (eAppF fId evs) :=
  pe_imp (pe_lst h) fun σ H Q h => tD_appF opF_lst hW hU h
theorem pfd_typ {id : String} {r : List V → Hp → VK → Prop} {f : List PyData → Option (List PyData)} {x : Str} {p pos : Pos} {e : Expr} {es : List Expr} {evs : Env → R (List PyData)} (hc : CallR X (.type id) r) (hf : OpF X.K r f) (hm : X.mg x = none) (hv : bootBuiltins x = some (.type id)) (ha : PAD X wx M W U (e :: es) evs)
    (hW : W.isEmpty = true := by rfl) (hU : sb U M = true := by rfl) (hg : Gl X x := by rfl) (hn : x ≠ "__name__" := by decide) (hdb : (x == ("__debug__" : Str)) = false := by decide) (he : starEach (e :: es) X.env = (false, eval e X.env) :: starEach es X.env := by rfl) (hpl : (backTo pos (starEach es X.env)).any (·.1) = false := by rfl) :
    PFD X wx M U (.Call (.Name x p) (e :: es) [] pos) (eAppF f evs) := pe_imp (pe_callTy hc hg hm hv ha hn hdb he hpl) fun σ H Q h => tD_appF hf hW hU h
theorem pfd_blt {id : String} {r : List V → Hp → VK → Prop} {f : List PyData → Option (List PyData)} {x : Str} {p pos : Pos} {e : Expr} {es : List Expr} {evs : Env → R (List PyData)} (hc : CallR X (.builtin id) r) (hf : OpF X.K r f) (hm : X.mg x = none) (hv : bootBuiltins x = some (.builtin id)) (ha : PAD X wx M W U (e :: es) evs)
    (hW : W.isEmpty = true := by rfl) (hU : sb U M = true := by rfl) (hg : Gl X x := by rfl) (hn : x ≠ "__name__" := by decide) (hdb : (x == ("__debug__" : Str)) = false := by decide) (he : starEach (e :: es) X.env = (false, eval e X.env) :: starEach es X.env := by rfl) (hpl : (backTo pos (starEach es X.env)).any (·.1) = false := by rfl) :
    PFD X wx M U (.Call (.Name x p) (e :: es) [] pos) (eAppF f evs) := pe_imp (pe_callB hc hg hm hv ha hn hdb he hpl) fun σ H Q h => tD_appF hf hW hU h
end
end BD
namespace BD
open PySem PySem.Spec L2
/-- the static side of a block: what is wished of errors; whether its answer is a new list; the slots of reference parameters; where errors may leave; the cells that stood at the block's start -/
structure Sx where
  wx : WXs
  fr : Bool
  rs : List Nat
  mx : Option (List Nat)
  m0 : List Nat
inductive O where
  | nx (e : Env)
  | rt (d : PyData) (e : Env)
  | exc (c f : Str) (x : PyData) (e : Env)
  | bad
abbrev Sv := Env → O
def RetOk (K : PySem.W.Frag) (b : Bs) (fr : Bool) (v : V) (H' : Hp) (d : PyData) (δ' : Env) : Prop :=
  ∃ Mr W σ', Loc K Mr b σ' H' δ' ∧ sb W Mr = true ∧ (∀ q ∈ b.rf, q.1 ∉ W) ∧ Rp K (SW Mr W b σ') H' v d ∧
    (fr = true → ∃ p vs ds, v = .ref p ∧ d = .list ds ∧ H' p = some (.lst vs) ∧ RpA K (fun q => SW Mr W b σ' q ∧ q ≠ p) H' vs ds ∧ (b.B p = none ∨ Cl W σ' p))
def FinS (K : PySem.W.Frag) (mg : Str → Option Value) (c : Sx) (M' : List Nat) (b : Bs) (o : O) (D : Ends) : Prop :=
  match o with
  | .nx δ' => ∀ σ' H', Loc K M' b σ' H' δ' → D.nx σ' H'
  | .rt d δ' => ∀ v H', RetOk K b c.fr v H' d δ' → D.rt v H'
  | .exc k f x δ' => ∀ cls dd σ' H' Mr, (∀ Mx, c.mx = some Mx → Mr = Mx) → Loc K Mr b σ' H' δ' → ExcR K mg (Nb b) k f x cls dd H' → c.wx cls dd σ' H'
  | .bad => False
structure BOk (c : Sx) (b : Bs) : Prop where
  z : ∀ p, ¬ b.Z p
  rf : ∀ q ∈ b.rf, q.1 ∈ c.rs
  m0 : ∀ i p, b.Rm i p → i ∈ c.m0
def tDS (K : PySem.W.Frag) (mg : Str → Option Value) (c : Sx) (M M' : List Nat) (sv : Sv) : TS := fun D σ H =>
  ∃ δ b, BOk c b ∧ Loc K M b σ H δ ∧ FinS K mg c M' b (sv δ) D
def PSD (X : Cx) (c : Sx) (M M' : List Nat) (st : Stmt) (sv : Sv) : Prop := PS X st (tDS X.K X.mg c M M' sv)
def PSsD (X : Cx) (c : Sx) (M M' : List Nat) (st : List Stmt) (sv : Sv) : Prop := PSs X st (tDS X.K X.mg c M M' sv)
def okM (c : Sx) (M : List Nat) : Bool := match c.mx with
  | none => true
  | some Mx => M == Mx
theorem okM_of {c : Sx} {M : List Nat} (h : okM c M = true) : ∀ Mx, c.mx = some Mx → M = Mx := fun Mx e => by
  unfold okM at h
  rw [e] at h
  simpa using h
def del (M : List Nat) (i : Nat) : List Nat := M.filter fun j => j != i
def ins (i : Nat) : List Nat → List Nat
  | [] => [i]
  | j :: r => if i = j then j :: r else if i < j then i :: j :: r else j :: ins i r
theorem mem_ins {i j : Nat} : ∀ {M : List Nat}, j ∈ ins i M ↔ j = i ∨ j ∈ M
  | [] => by simp [ins]
  | k :: r => by
    unfold ins
    by_cases h1 : i = k
    · rw [if_pos h1]; subst h1; simp
    · rw [if_neg h1]
      by_cases h2 : i < k
      · rw [if_pos h2]; simp
      · rw [if_neg h2]; simp [mem_ins (i := i) (M := r), or_left_comm]
theorem mem_del {i j : Nat} {M : List Nat} : j ∈ del M i ↔ j ∈ M ∧ j ≠ i := by
  unfold del; simp [List.mem_filter]
section
variable {K : PySem.W.Frag} {M M' : List Nat} {b : Bs} {σ : L2.St} {H : Hp} {δ : Env} {i : Nat}
theorem Loc.none_iff (L : Loc K M b σ H δ) (j : Nat) : σ[j]? = none ↔ δ[j]? = none := by
  by_cases hj : j ∈ M
  · have q := L.mu j hj
    revert q
    cases σ[j]? with
    | none => cases δ[j]? with
      | none => intro _; simp
      | some u => cases u <;> exact fun q => q.elim
    | some o => cases δ[j]? with
      | none => cases o <;> exact fun q => q.elim
      | some u => intro _; simp
  · have q := L.imm j hj
    revert q
    cases σ[j]? with
    | none => cases δ[j]? with
      | none => intro _; simp
      | some u => cases u <;> exact fun q => q.elim
    | some o => cases δ[j]? with
      | none => cases o <;> exact fun q => q.elim
      | some u => intro _; simp
theorem Loc.len (L : Loc K M b σ H δ) : σ.length = δ.length := by
  have h1 : σ.length ≤ δ.length := by
    by_cases h : δ.length < σ.length
    · have := (L.none_iff δ.length).mpr (by simp)
      simp at this
      omega
    · omega
  have h2 : δ.length ≤ σ.length := by
    by_cases h : σ.length < δ.length
    · have := (L.none_iff σ.length).mp (by simp)
      simp at this
      omega
    · omega
  omega
theorem SlotI.mono {S S' : Addr → Prop} {o u} (hS : ∀ p, S p → S' p) (q : SlotI K S H o u) : SlotI K S' H o u := by
  revert q
  cases o with
  | none => cases u with
    | none => exact id
    | some u => cases u <;> exact id
  | some o => cases u with
    | none => cases o <;> exact id
    | some u => cases o with
      | none => cases u <;> exact id
      | some v => cases u with
        | none => exact id
        | some d => exact fun (q : RpS K S H v d) => q.mono hS (Ext.refl H).kp
theorem SlotM.mono {S S' : Addr → Prop} {b' : Bs} {o u} (hS : ∀ p, S p → S' p) (hB : ∀ p, (∀ o, b.B p = some o → b.Rm i p) → (∀ o, b'.B p = some o → b'.Rm i p)) (hZ : ∀ p, ¬ b.Z p → ¬ b'.Z p) (q : SlotM K b i S H o u) : SlotM K b' i S' H o u := by
  revert q
  cases o with
  | none => cases u with
    | none => exact id
    | some u => cases u <;> exact id
  | some o => cases u with
    | none => cases o <;> exact id
    | some u => cases o with
      | none => cases u <;> exact id
      | some v => cases u with
        | none => exact id
        | some d =>
          rintro ⟨p, vs, ds, h1, h2, h3, h4, h5, h6⟩
          exact ⟨p, vs, ds, h1, h2, h3, h4.mono hS (Ext.refl H).kp, hB p h5, hZ p h6⟩
theorem set_at {α : Type} (l : List α) (i j : Nat) (a : α) : (l.set i a)[j]? = if i = j then (if i < l.length then some a else none) else l[j]? := by
  rw [List.getElem?_set]
theorem Loc.setS {v : V} {d : PyData} (L : Loc K M b σ H δ) (r : RpS K (Sb M b σ) H v d) (hrf : ∀ q ∈ b.rf, q.1 ≠ i) : Loc K (del M i) b (σ.set i (some v)) H (δ.set i (some d)) := by
  have hc : ∀ q, Sb M b σ q → Sb (del M i) b (σ.set i (some v)) q := fun q h => ⟨fun ⟨j, hj, e⟩ => h.1 ⟨j, (mem_del.mp hj).1, by
    rw [List.getElem?_set_ne (Ne.symm (mem_del.mp hj).2)] at e
    exact e⟩, h.2⟩
  refine ⟨L.trk, L.fr, L.tp, fun j hj => ?_, fun j hj => ?_, fun j k p hj hk e1 e2 => ?_, fun q hq => ?_, L.zT, L.zB⟩
  · by_cases hji : i = j
    · subst hji
      rw [set_at, set_at, if_pos rfl, if_pos rfl, L.len]
      by_cases hl : i < δ.length
      · rw [if_pos hl, if_pos hl]
        exact r.mono hc (Ext.refl H).kp
      · rw [if_neg hl, if_neg hl]; trivial
    · rw [set_at, set_at, if_neg hji, if_neg hji]
      exact (L.imm j fun z => hj (mem_del.mpr ⟨z, Ne.symm hji⟩)).mono hc
  · have ⟨h1, h2⟩ := mem_del.mp hj
    rw [set_at, set_at, if_neg (Ne.symm h2), if_neg (Ne.symm h2)]
    exact (L.mu j h1).mono hc (fun _ h => h) fun _ h => h
  · rw [List.getElem?_set_ne (Ne.symm (mem_del.mp hj).2)] at e1
    rw [List.getElem?_set_ne (Ne.symm (mem_del.mp hk).2)] at e2
    exact L.inj j k p (mem_del.mp hj).1 (mem_del.mp hk).1 e1 e2
  · obtain ⟨h1, h2, h3⟩ := L.rfs q hq
    have n := hrf q hq
    exact ⟨mem_del.mpr ⟨h1, n⟩, by rw [List.getElem?_set_ne (Ne.symm n)]; exact h2, h3⟩
theorem Loc.set {v : V} {d : PyData} (L : Loc K M b σ H δ) (r : Rp K (Sb M b σ) H v d) (hrf : ∀ q ∈ b.rf, q.1 ≠ i) : Loc K (del M i) b (σ.set i (some v)) H (δ.set i (some d)) := L.setS (.inl r) hrf
theorem Loc.setF {p : Addr} {vs : List V} {ds : List PyData} (L : Loc K M (bz b p) σ H δ) (hp : H p = some (.lst vs)) (r : RpA K (Sb M (bz b p) σ) H vs ds) (hrf : ∀ q ∈ b.rf, q.1 ≠ i) (hz : ¬ b.Z p) : Loc K (ins i M) b (σ.set i (some (.ref p))) H (δ.set i (some (.list ds))) := by
  have np : ∀ o, b.B p ≠ some o := fun o e => L.zB p o e (.inr rfl)
  have nc : ∀ j ∈ M, σ[j]? ≠ some (some (.ref p)) := fun j hj e => by
    have q := L.mu j hj
    rw [e] at q
    revert q
    cases δ[j]? with
    | none => exact fun q => q.elim
    | some u => cases u with
      | none => exact fun q => q.elim
      | some d =>
        rintro ⟨a, vs', ds', h1, _, _, _, _, h6⟩
        cases h1
        exact h6 (.inr rfl)
  have hc : ∀ q, Sb M (bz b p) σ q → Sb (ins i M) b (σ.set i (some (.ref p))) q := fun q h => ⟨fun ⟨j, hj, e⟩ => by
    rw [set_at] at e
    by_cases hij : i = j
    · rw [if_pos hij] at e
      by_cases hl : i < σ.length
      · rw [if_pos hl] at e
        cases e
        exact h.2.1 (.inr rfl)
      · rw [if_neg hl] at e; cases e
    · rw [if_neg hij] at e
      rcases mem_ins.mp hj with z | z
      · exact hij z.symm
      · exact h.1 ⟨j, z, e⟩, fun z => h.2.1 (.inl z), h.2.2⟩
  refine ⟨L.trk, L.fr, L.tp, fun j hj => ?_, fun j hj => ?_, fun j k a hj hk e1 e2 => ?_, fun q hq => ?_, fun q z => L.zT q (.inl z), fun q o h z => L.zB q o h (.inl z)⟩
  · have h1 : j ≠ i := fun z => hj (mem_ins.mpr (.inl z))
    rw [set_at, set_at, if_neg (Ne.symm h1), if_neg (Ne.symm h1)]
    exact (L.imm j fun z => hj (mem_ins.mpr (.inr z))).mono hc
  · by_cases hji : i = j
    · subst hji
      rw [set_at, set_at, if_pos rfl, if_pos rfl, L.len]
      by_cases hl : i < δ.length
      · rw [if_pos hl, if_pos hl]
        exact ⟨p, vs, ds, rfl, rfl, hp, r.mono hc (Ext.refl H).kp, fun o e => absurd e (np o), hz⟩
      · rw [if_neg hl, if_neg hl]; trivial
    · rw [set_at, set_at, if_neg hji, if_neg hji]
      rcases mem_ins.mp hj with z | z
      · exact absurd z.symm hji
      · exact (L.mu j z).mono (b := bz b p) hc (fun _ h => h) fun _ h z => h (Or.inl z)
  · rw [set_at] at e1 e2
    by_cases h1 : i = j
    · by_cases h2 : i = k
      · rw [← h1, ← h2]
      · rw [if_pos h1] at e1
        rw [if_neg h2] at e2
        by_cases hl : i < σ.length
        · rw [if_pos hl] at e1
          cases e1
          rcases mem_ins.mp hk with z | z
          · exact absurd z.symm h2
          · exact absurd e2 (nc k z)
        · rw [if_neg hl] at e1; cases e1
    · rw [if_neg h1] at e1
      rcases mem_ins.mp hj with z | z
      · exact absurd z.symm h1
      · by_cases h2 : i = k
        · rw [if_pos h2] at e2
          by_cases hl : i < σ.length
          · rw [if_pos hl] at e2
            cases e2
            exact absurd e1 (nc j z)
          · rw [if_neg hl] at e2; cases e2
        · rw [if_neg h2] at e2
          rcases mem_ins.mp hk with z' | z'
          · exact absurd z'.symm h2
          · exact L.inj j k a z z' e1 e2
  · obtain ⟨h1, h2, h3⟩ := L.rfs q hq
    have n := hrf q hq
    exact ⟨mem_ins.mpr (.inr h1), by rw [List.getElem?_set_ne (Ne.symm n)]; exact h2, h3⟩
/-- a cell is changed -/
theorem Loc.put {p : Addr} {vs vs' : List V} {ds ds' : List PyData} (L : Loc K M b σ H δ) (hi : i ∈ M) (e : σ[i]? = some (some (.ref p))) (hp : H p = some (.lst vs)) (r : RpA K (Sb M b σ) H vs' ds') :
    Loc K M b σ (upd H p (.lst vs')) (δ.set i (some (.list ds'))) ∧ Gr [i] σ H (upd H p (.lst vs')) := by
  have g : Gr [i] σ H (upd H p (.lst vs')) := fun q o h n => by
    have nq : q ≠ p := fun z => n ⟨i, by simp, by rw [z]; exact e⟩
    rw [upd_ne nq]; exact h
  have hil : i < σ.length := (List.getElem?_eq_some_iff.mp e).1
  have kp := L.kp (U := [i]) (W := []) (H' := upd H p (.lst vs')) (fun j hj => by simp at hj; subst hj; exact hi) (fun j hj => by simp at hj) (fun j _ hj => by simp at hj) g
  have kp' : Kp (Sb M b σ) H (upd H p (.lst vs')) := ⟨fun q o h => kp.at_ q o (.inr h), kp.tup⟩
  have tup : ∀ q xs, Rd H q (.tup xs) → Rd (upd H p (.lst vs')) q (.tup xs) := kp.tup
  have i0 := L.mu i hi
  obtain ⟨d0, e0⟩ : ∃ d, δ[i]? = some (some d) := by
    rw [e] at i0
    revert i0
    cases δ[i]? with
    | none => exact fun q => q.elim
    | some u => cases u with
      | none => exact fun q => q.elim
      | some d => exact fun _ => ⟨d, rfl⟩
  obtain ⟨p0, vs0, ds0, e1, _, h3, _, h5, h6⟩ := getSlotM i0 e0
  rw [e] at e1
  cases e1
  refine ⟨⟨fun q o h => ?_, fun q o h n => ?_, fun q xs h => tup q xs (L.tp q xs h), fun j hj => ?_, fun j hj => ?_, L.inj, L.rfs, fun q z => ?_, L.zB⟩, g⟩
  · obtain ⟨o', h'⟩ := L.trk q o h
    by_cases hq : q = p
    · exact ⟨_, by rw [hq]; exact upd_same⟩
    · exact ⟨o', by rw [upd_ne hq]; exact h'⟩
  · have hq : q ≠ p := fun z => n i (by subst z; exact h5 o h)
    rw [upd_ne hq]
    exact L.fr q o h n
  · have hji : i ≠ j := fun z => hj (by rw [← z]; exact hi)
    rw [set_at, if_neg hji]
    have q := L.imm j hj
    revert q
    cases σ[j]? with
    | none => cases δ[j]? with
      | none => exact id
      | some u => cases u <;> exact id
    | some o => cases δ[j]? with
      | none => cases o <;> exact id
      | some u => cases o with
        | none => cases u <;> exact id
        | some v => cases u with
          | none => exact id
          | some d => exact fun (q : RpS K _ H v d) => q.mono (fun _ h => h) kp'
  · rw [set_at]
    by_cases hji : i = j
    · subst hji
      rw [if_pos rfl, if_pos (by rw [← L.len]; exact hil), e]
      exact ⟨p, vs', ds', rfl, rfl, upd_same, r.mono (fun _ h => h) kp', h5, h6⟩
    · rw [if_neg hji]
      have q := L.mu j hj
      have nj : ∀ a, σ[j]? = some (some (.ref a)) → a ≠ p := fun a ea z => hji (L.inj i j p hi hj e (by rw [← z]; exact ea))
      revert q nj
      cases σ[j]? with
      | none => cases δ[j]? with
        | none => exact fun q _ => q
        | some u => cases u <;> exact fun q _ => q
      | some o => cases δ[j]? with
        | none => cases o <;> exact fun q _ => q
        | some u => cases o with
          | none => cases u <;> exact fun q _ => q
          | some v => cases u with
            | none => exact fun q _ => q
            | some d =>
              rintro ⟨a, ws, es, h1, h2, h3, h4, h7, h8⟩ nj
              refine ⟨a, ws, es, h1, h2, ?_, h4.mono (fun _ h => h) kp', h7, h8⟩
              rw [upd_ne (nj a (by rw [h1]))]
              exact h3
  · obtain ⟨xs, h⟩ := L.zT q z
    by_cases hq : q = p
    · exact ⟨_, by rw [hq]; exact upd_same⟩
    · exact ⟨xs, by rw [upd_ne hq]; exact h⟩
/-- cells that are no cells any more -/
theorem Loc.frz {M1 : List Nat} (L : Loc K M b σ H δ) (s : ∀ j ∈ M1, j ∈ M) (hB : ∀ j ∈ M, j ∉ M1 → ∀ p, ¬ b.Rm j p) (hrf : ∀ q ∈ b.rf, q.1 ∈ M1) : Loc K M1 b σ H δ := by
  have hc : ∀ q, Sb M b σ q → Sb M1 b σ q := fun q h => h.sub s
  refine ⟨L.trk, L.fr, L.tp, fun j hj => ?_, fun j hj => (L.mu j (s j hj)).mono hc (fun _ h => h) fun _ h => h, fun j k p hj hk => L.inj j k p (s j hj) (s k hk), fun q hq => ⟨hrf q hq, (L.rfs q hq).2⟩, L.zT, L.zB⟩
  by_cases hm : j ∈ M
  · have q := L.mu j hm
    have inj := L.inj j
    have nb := hB j hm hj
    revert q
    cases e : σ[j]? with
    | none => cases δ[j]? with
      | none => exact id
      | some u => cases u <;> exact id
    | some o => cases δ[j]? with
      | none => cases o <;> exact id
      | some u => cases o with
        | none => cases u <;> exact id
        | some v => cases u with
          | none => exact id
          | some d =>
            rintro ⟨p, vs, ds, rfl, rfl, h3, h4, h5, h6⟩
            refine .inl <| .lst (.inl ⟨⟨fun ⟨k, hk, ek⟩ => hj (by rw [inj k p hm (s k hk) e ek]; exact hk), h6, fun o ho => absurd (h5 o ho) (nb p)⟩, .inl h3⟩) (h4.mono hc (Ext.refl H).kp)
  · exact (L.imm j hm).mono hc
/-- a world that begins here -/
def rb (M : List Nat) (b : Bs) (σ : L2.St) (H : Hp) : Bs := ⟨H, fun i p => i ∈ M ∧ σ[i]? = some (some (.ref p)), Sb M b σ, b.Z, b.rf⟩
theorem Loc.rb (L : Loc K M b σ H δ) (hz : ∀ p, ¬ b.Z p) : Loc K M (rb M b σ H) σ H δ := by
  have hc : ∀ q, Sb M b σ q → Sb M (BD.rb M b σ H) σ q := fun q h => ⟨h.1, h.2.1, fun _ _ => h⟩
  refine ⟨fun p o h => ⟨o, h⟩, fun p o h _ => h, fun p xs h => h, fun j hj => (L.imm j hj).mono hc, fun j hj => ?_, L.inj, fun q hq => ⟨(L.rfs q hq).1, (L.rfs q hq).2.1, (L.rfs q hq).1, (L.rfs q hq).2.1⟩, L.zT, fun p o _ z => hz p z⟩
  have q := L.mu j hj
  revert q
  cases e : σ[j]? with
  | none => cases δ[j]? with
    | none => exact id
    | some u => cases u <;> exact id
  | some o => cases δ[j]? with
    | none => cases o <;> exact id
    | some u => cases o with
      | none => cases u <;> exact id
      | some v => cases u with
        | none => exact id
        | some d =>
          rintro ⟨p, vs, ds, rfl, h2, h3, h4, h5, h6⟩
          exact ⟨p, vs, ds, rfl, h2, h3, h4.mono hc (Ext.refl H).kp, fun o ho => ⟨hj, e⟩, h6⟩
theorem Sb.unrb {σ' : L2.St} {q : Addr} (L : Loc K M b σ H δ) (h : Sb M' (rb M b σ H) σ' q) : Sb M' b σ' q := ⟨h.1, h.2.1, fun o ho => by
  obtain ⟨o', h'⟩ := L.trk q o ho
  exact (h.2.2 o' h').2.2 o ho⟩
theorem Loc.unrb {σ' : L2.St} {H' : Hp} {δ' : Env} (L : Loc K M b σ H δ) (L' : Loc K M' (BD.rb M b σ H) σ' H' δ') : Loc K M' b σ' H' δ' := by
  have hc : ∀ q, Sb M' (BD.rb M b σ H) σ' q → Sb M' b σ' q := fun q h => Sb.unrb L h
  have hR : ∀ i p, (∀ o, H p = some o → i ∈ M ∧ σ[i]? = some (some (.ref p))) → ∀ o, b.B p = some o → b.Rm i p := fun i p h o ho => by
    obtain ⟨o', h'⟩ := L.trk p o ho
    obtain ⟨h1, h2⟩ := h o' h'
    have q := L.mu i h1
    rw [h2] at q
    revert q
    cases δ[i]? with
    | none => exact fun q => q.elim
    | some u => cases u with
      | none => exact fun q => q.elim
      | some d =>
        rintro ⟨a, ws, es, e1, _, _, _, h5, _⟩
        cases e1
        exact h5 o ho
  refine ⟨fun p o h => ?_, fun p o h n => ?_, fun p xs h => L'.tp p xs (L.tp p xs h), fun j hj => (L'.imm j hj).mono hc, fun j hj => (L'.mu j hj).mono (b := BD.rb M b σ H) (b' := b) hc (hR j) (fun _ h => h), L'.inj, fun q hq => ?_, L'.zT, L.zB⟩
  · obtain ⟨o', h'⟩ := L.trk p o h
    exact L'.trk p o' h'
  · refine L'.fr p o (L.fr p o h n) fun i hi => n i (hR i p (fun _ _ => hi) o h)
  · obtain ⟨h1, h2, h3⟩ := L'.rfs q hq
    exact ⟨h1, h2, (L.rfs q hq).2.2 |> fun z => by
      obtain ⟨k1, k2, k3⟩ := L.rfs q hq
      exact k3⟩
end
/-! ### statements -/
section
variable {X : Cx} {c : Sx} {M M1 M2 W W1 W2 U U1 U2 U3 : List Nat}
def sNil : Sv := fun δ => .nx δ
def sSeq (s t : Sv) : Sv := fun δ => match s δ with
  | .nx δ' => t δ'
  | o => o
theorem pss_Dnil : PSsD X c M M [] sNil := pss_imp pss_nil fun D σ H ⟨δ, b, B, L, f⟩ => f σ H L
theorem pss_Done {st : Stmt} {s : Sv} (h : PSD X c M M1 st s) : PSsD X c M M1 [st] s := pss_one h
theorem pss_Dcons {st : Stmt} {rest : List Stmt} {s t : Sv} (h : PSD X c M M1 st s) (h' : PSsD X c M1 M2 rest t) : PSsD X c M M2 (st :: rest) (sSeq s t) :=
  pss_imp (pss_cons h h') fun D σ H ⟨δ, b, B, L, f⟩ => ⟨δ, b, B, L, by
    unfold sSeq at f
    cases e : s δ with
    | bad => rw [e] at f; exact f
    | exc k g x e' => rw [e] at f; exact f
    | rt d δ' => rw [e] at f; exact f
    | nx δ' =>
      rw [e] at f
      exact fun σ' H' L' => ⟨δ', b, B, L', f⟩⟩
/-- cells let go -/
theorem pss_frz (M1 : List Nat) {sts : List Stmt} {s : Sv} (h : PSsD X c M1 M2 sts s) (h1 : sb M1 M = true := by rfl) (h2 : (M.all fun j => M1.contains j || !c.m0.contains j) = true := by rfl) (h3 : sb c.rs M1 = true := by rfl) : PSsD X c M M2 sts s :=
  pss_imp h fun D σ H ⟨δ, b, B, L, f⟩ => ⟨δ, b, B, L.frz (sb_of h1) (fun j hj n p hp => by
    have q := List.all_eq_true.mp h2 j hj
    have m := B.m0 j p hp
    simp [n, m] at q) (fun q hq => sb_of h3 _ (B.rf q hq)), f⟩
def liftR (r : R PyData) (f : PyData → Env → O) : O := match r with
  | .ok d e => f d e
  | .exc k g x e => .exc k g x e
  | .bad => .bad
def sAsg (i : Nat) (ev : Ev) : Sv := fun δ => liftR (ev δ) fun d δ1 => .nx (δ1.set i (some d))
theorem FinS.exc_e {K : PySem.W.Frag} {mg : Str → Option Value} {b : Bs} {σ : L2.St} {H : Hp} {D : Ends} {k g : Str} {x : PyData} {e' : Env} (f : FinS K mg c M2 b (.exc k g x e') D) (hm : okM c M = true) :
    ∀ cls dd H', Loc K M b σ H' e' → Gr U σ H H' → ExcR K mg (Nb b) k g x cls dd H' → c.wx cls dd σ H' := fun cls dd H' L g ex => f cls dd σ H' M (okM_of hm) L ex
theorem psd_asg (i : Nat) {x : Str} {e : Expr} {ev : Ev} {pos pos' : Pos} (hN : X.N.Nodup) (he : PD X c.wx M W U e ev) (hW : W.isEmpty = true := by rfl) (hr : c.rs.contains i = false := by rfl) (hm : okM c M = true := by rfl)
    (hi : X.N[i]? = some x := by rfl) (hx : L2.Loc X.env.scope x := by first | exact Or.inl rfl | exact Or.inr rfl) (hs : swapsWith e (some (.Name x pos')) pos.line X.env = pure false := by rfl)
    (hf : X.fn x = true ∨ X.env.scope.names.lookup x = some .local := by first | exact .inl rfl | exact .inr rfl | assumption) : PSD X c M (del M i) (.Assign [.Name x pos'] e pos) (sAsg i ev) := by
  have hW : W = [] := by simpa using hW
  subst hW
  refine ps_imp (ps_set hN hi hx he hs hf) fun D σ H ⟨δ, b, B, L, f⟩ => ⟨δ, b, L, ?_⟩
  unfold sAsg liftR at f
  cases e1 : ev δ with
  | bad => rw [e1] at f; exact f
  | exc k g x e' => rw [e1] at f; exact f.exc_e hm
  | ok d δ1 =>
    rw [e1] at f
    exact fun v H1 p => f _ _ (p.loc.set (p.rp.mono (fun _ h => h.nil) (Ext.refl _).kp) fun q hq z => by
      have := B.rf q hq
      rw [z] at this
      simp [this] at hr)
theorem asgF_sem {K : PySem.W.Frag} {mg : Str → Option Value} {i : Nat} {ev : Ev} {D : Ends} {σ : L2.St} {H : Hp} (hr : c.rs.contains i = false) (hm : okM c M = true) (h : tDS K mg c M (ins i M) (sAsg i ev) D σ H) : tDF K mg c.wx M U ev σ H (fun x H1 => gName i x σ H1 D.nx) := by
  obtain ⟨δ, b, B, L, f⟩ := h
  refine ⟨δ, b, L, ?_⟩
  unfold sAsg liftR at f
  cases e1 : ev δ with
  | bad => rw [e1] at f; exact f
  | exc k g x e' => rw [e1] at f; exact f.exc_e hm
  | ok d δ1 =>
    rw [e1] at f
    intro v H1 ⟨⟨p, vs, ds, e2, e3, np, hp, L1, r⟩, g⟩
    subst e2 e3
    exact f _ _ (L1.setF hp r (fun q hq z => by
      have := B.rf q hq
      rw [z] at this
      simp [this] at hr) (B.z p))
/-- a new list to a name: a cell from here on -/
theorem psd_asgF (i : Nat) {x : Str} {e : Expr} {ev : Ev} {pos pos' : Pos} (hN : X.N.Nodup) (he : PFD X c.wx M U e ev) (hr : c.rs.contains i = false := by rfl) (hm : okM c M = true := by rfl)
    (hi : X.N[i]? = some x := by rfl) (hx : L2.Loc X.env.scope x := by first | exact Or.inl rfl | exact Or.inr rfl) (hs : swapsWith e (some (.Name x pos')) pos.line X.env = pure false := by rfl)
    (hf : X.fn x = true ∨ X.env.scope.names.lookup x = some .local := by first | exact .inl rfl | exact .inr rfl | assumption) : PSD X c M (ins i M) (.Assign [.Name x pos'] e pos) (sAsg i ev) :=
  ps_imp (ps_set hN hi hx he hs hf) fun D σ H h => asgF_sem hr hm h
def sRet (ev : Ev) : Sv := fun δ => liftR (ev δ) fun d δ1 => .rt d δ1
theorem psd_ret {e : Expr} {ev : Ev} {pos : Pos} (he : PD X c.wx M W U e ev) (h1 : sb W M = true := by rfl) (h2 : dj c.rs W = true := by rfl) (h3 : c.fr = false := by rfl) (hm : okM c M = true := by rfl) : PSD X c M M1 (.Return (some e) pos) (sRet ev) := by
  refine ps_imp (ps_ret he) fun D σ H ⟨δ, b, B, L, f⟩ => ⟨δ, b, L, ?_⟩
  unfold sRet liftR at f
  cases e1 : ev δ with
  | bad => rw [e1] at f; exact f
  | exc k g x e' => rw [e1] at f; exact f.exc_e hm
  | ok d δ1 =>
    rw [e1] at f
    exact fun v H1 p => f v H1 ⟨M, W, σ, p.loc, h1, fun q hq => dj_of h2 _ (B.rf q hq), p.rp, fun z => by rw [h3] at z; cases z⟩
theorem psd_retF {e : Expr} {ev : Ev} {pos : Pos} (he : PFD X c.wx M U e ev) (hm : okM c M = true := by rfl) : PSD X c M M1 (.Return (some e) pos) (sRet ev) := by
  refine ps_imp (ps_ret he) fun D σ H ⟨δ, b, B, L, f⟩ => ⟨δ, b, L, ?_⟩
  unfold sRet liftR at f
  cases e1 : ev δ with
  | bad => rw [e1] at f; exact f
  | exc k g x e' => rw [e1] at f; exact f.exc_e hm
  | ok d δ1 =>
    rw [e1] at f
    intro v H1 ⟨⟨p, vs, ds, e2, e3, np, hp, L1, r⟩, g⟩
    subst e2 e3
    have hSp : Sb M b σ p := L.nw (fun _ h => h) np
    have rr : RpA X.K (fun q => SW M [] b σ q ∧ q ≠ p) H1 vs ds := r.mono (fun q h => ⟨.inr ⟨h.1, fun z => h.2.1 (.inl z), h.2.2⟩, fun z => h.2.1 (.inr z)⟩) (Ext.refl _).kp
    refine f _ H1 ⟨M, [], σ, L1.unhide, rfl, fun q hq => by simp, .lst (.inl ⟨.inr hSp, .inl hp⟩) (rr.mono (fun q h => h.1) (Ext.refl _).kp), fun _ => ⟨p, vs, ds, rfl, rfl, hp, rr, .inl ?_⟩⟩
    cases q : b.B p with
    | none => rfl
    | some o =>
      obtain ⟨o', h'⟩ := L.trk p o q
      rw [np] at h'; cases h'
/-- a cell is handed back -/
theorem psd_retC (i : Nat) {x : Str} {p pos : Pos} (hM : M.contains i = true := by rfl) (h2 : c.rs.contains i = false := by rfl) (hN : X.N[i]? = some x := by rfl) (hv : Vis X.env.scope x := by first | exact Or.inl rfl | exact Or.inr (Or.inl rfl) | exact Or.inr (Or.inr rfl))
    (hd : (x == ("__debug__" : Str)) = false := by decide) (hcd : (x == ("__classdict__" : Str)) = false := by decide) : PSD X c M M1 (.Return (some (.Name x p)) pos) (sRet (eVar i)) := by
  refine ps_imp (ps_ret (pe_var hN hv hd hcd)) fun D σ H ⟨δ, b, B, L, f⟩ => ?_
  have nM : i ∈ M := by simpa using hM
  unfold sRet liftR at f
  cases e : eVar i δ with
  | bad => rw [e] at f; exact f.elim
  | exc k g x e' =>
    exact (eVar_exc e).elim
  | ok d δ' =>
    obtain ⟨e1, rfl⟩ := eVar_ok e
    rw [e] at f
    obtain ⟨q, vs, ds, e2, rfl, h1, r, hB, hZ⟩ := getSlotM (L.mu i nM) e1
    have cl : Cl [i] σ q := ⟨i, by simp, e2⟩
    have rr : RpA X.K (fun a => SW M [i] b σ a ∧ a ≠ q) H vs ds := r.mono (fun a h => ⟨.inr h, fun z => h.1 (by rw [z]; exact ⟨i, nM, e2⟩)⟩) (Ext.refl _).kp
    refine ⟨_, e2, f _ H ⟨M, [i], σ, L, by simp [sb, nM], fun z hz => ?_, .lst (.inl ⟨.inl cl, .inl h1⟩) (rr.mono (fun _ h => h.1) (Ext.refl _).kp), fun _ => ⟨q, vs, ds, rfl, rfl, h1, rr, .inr cl⟩⟩⟩
    have := B.rf z hz
    intro w
    simp at w
    rw [w] at this
    simp [this] at h2
def sRetN : Sv := fun δ => .rt .none δ
theorem psd_retN {pos : Pos} (h3 : c.fr = false := by rfl) : PSD X c M M1 (.Return none pos) sRetN := ps_imp ps_retN fun D σ H ⟨δ, b, B, L, f⟩ => f _ H ⟨M, [], σ, L, rfl, fun q hq => by simp, .non, fun z => by rw [h3] at z; cases z⟩
def sIf (t : Env → R Bool) (s u : Sv) : Sv := fun δ => match t δ with
  | .ok k δ1 => if k = true then s δ1 else u δ1
  | .exc k g x e => .exc k g x e
  | .bad => .bad
theorem psd_if {t : Expr} {sts us : List Stmt} {et : Env → R Bool} {s u : Sv} {pos : Pos} (ht : PTD X c.wx M U t et) (hs : PSsD X c M M1 sts s) (hu : PSsD X c M M1 us u) (hm : okM c M = true := by rfl) : PSD X c M M1 (.If t sts us pos) (sIf et s u) := by
  refine ps_imp (ps_if ht hs hu) fun D σ H ⟨δ, b, B, L, f⟩ => ⟨δ, b, L, ?_⟩
  unfold sIf at f
  cases e1 : et δ with
  | bad => rw [e1] at f; exact f
  | exc k g x e' => rw [e1] at f; exact f.exc_e hm
  | ok d δ1 =>
    rw [e1] at f
    intro H1 L1 g1
    cases d with
    | true => exact ⟨δ1, b, B, L1, f⟩
    | false => exact ⟨δ1, b, B, L1, f⟩
/-- where only one of the ways goes on: its cells are let go at the join, by pss_frz at its end -/
def sExpr (ev : Ev) : Sv := fun δ => liftR (ev δ) fun _ δ1 => .nx δ1
theorem psd_expr {e : Expr} {ev : Ev} {pos : Pos} (he : PD X c.wx M W U e ev) (hm : okM c M = true := by rfl) (hs : swapsWith e none pos.line X.env = pure false := by rfl) : PSD X c M M (.Expr e pos) (sExpr ev) := by
  refine ps_imp (ps_expr he hs) fun D σ H ⟨δ, b, B, L, f⟩ => ⟨δ, b, L, ?_⟩
  unfold sExpr liftR at f
  cases e1 : ev δ with
  | bad => rw [e1] at f; exact f
  | exc k g x e' => rw [e1] at f; exact f.exc_e hm
  | ok d δ1 =>
    rw [e1] at f
    exact fun v H1 p => f _ _ p.loc
/-- a way that is never gone -/
def sNev : Sv := fun _ => .bad
theorem psd_never {st : Stmt} : PSD X c M M1 st sNev := ps_imp ps_never fun D σ H ⟨δ, b, B, L, f⟩ => f
theorem pss_Dnever {st : List Stmt} : PSsD X c M M1 st sNev := pss_imp pss_never fun D σ H ⟨δ, b, B, L, f⟩ => f
end
end BD
namespace BD
open PySem PySem.Spec PyProof.Rows L2
/-! ### sources: lists (false), tuples (true) -/
def SqK (K : PySem.W.Frag) (H : Hp) (kd : Bool) (a : Addr) (xs : List V) : Prop := match kd with
  | false => SqL K H a xs
  | true => SqT K H a xs
def SIt (kd : Bool) (h : Heap) (it a : Addr) (i : Nat) : Prop := match kd with
  | false => h.IsListIter it a i
  | true => h.IsTupleIter it a i
def SIs (kd : Bool) (h : Heap) (a : Addr) (items : Array Value) : Prop := match kd with
  | false => h.IsList a items
  | true => h.IsTuple a items
def SOb (kd : Bool) (a : Addr) : Obj := match kd with
  | false => { cls := .type "list_iterator", data := .fields #[.ref a, .int 0 0] }
  | true => { cls := .type "tuple_iterator", data := .fields #[.ref a, .int 0 0] }
theorem begS (kd : Bool) (a : Addr) (items : Array Value) : Begins (.ref a) (SOb kd a) fun h => SIs kd h a items := by
  cases kd
  · exact begins_list a items
  · exact begins_tuple a items
theorem drawS {prog : Program} {w : World} {A : Around} (kd : Bool) (hh : A.handled = none) (it a : Addr) (hne : a ≠ it) (items : Array Value) :
    Draws prog w A it [it, a] items.size (fun i v => items[i]? = some v) (fun i h => SIt kd h it a i ∧ SIs kd h a items) := by
  cases kd
  · exact Draws.list hh it a hne items
  · exact Draws.tuple hh it a hne items
theorem SIt.at {kd : Bool} {h h' : Heap} {it a : Addr} {i : Nat} (x : SIt kd h it a i) (k : ∀ o, h.get? it = some o → h'.get? it = some o) : SIt kd h' it a i := by
  cases kd
  · exact Heap.IsListIter.at x k
  · obtain ⟨o, e, r⟩ := x
    exact ⟨o, k o e, r⟩
theorem SIt.ob {kd : Bool} {h : Heap} {it a : Addr} {i : Nat} (x : SIt kd h it a i) : ∃ o, h.get? it = some o ∧ ∀ v, o.data ≠ .cell v := by
  cases kd
  · obtain ⟨o, e, c, d⟩ := x
    exact ⟨o, e, fun v z => by rw [d] at z; cases z⟩
  · obtain ⟨o, e, c, d⟩ := x
    exact ⟨o, e, fun v z => by rw [d] at z; cases z⟩
theorem SIt.zero {kd : Bool} {h : Heap} {it a : Addr} (e : h.get? it = some (SOb kd a)) : SIt kd h it a 0 := by
  cases kd
  · exact ⟨_, e, rfl, rfl⟩
  · exact ⟨_, e, rfl, rfl⟩
section
variable {X : Cx} {pins : List (Addr × Obj)} {σ : L2.St} {H : Hp} {s : Shared} {a : Addr} {xs : List V} {kd : Bool}
theorem Inv.seqK (I : Inv X pins σ H s) (h : SqK X.K H kd a xs) : ∃ its : List Value, Vals xs its ∧ SIs kd s.heap a its.toArray := by
  cases kd
  · obtain ⟨its, r, p, _⟩ := I.list h
    exact ⟨its, r, p.isList⟩
  · obtain ⟨its, r, p, _⟩ := I.tuple h
    exact ⟨its, r, p⟩
theorem Inv.seqK_inj {ys : List V} (I : Inv X pins σ H s) (h : SqK X.K H kd a xs) (h' : SqK X.K H kd a ys) : xs = ys := by
  cases kd
  · exact I.list_inj h h'
  · exact I.tuple_inj h h'
theorem SIs.lt {kd : Bool} {h : Heap} {a : Addr} {items : Array Value} (x : SIs kd h a items) : a < h.objs.size := by
  cases kd
  · obtain ⟨_, e, _⟩ := x; exact Heap.lt_size e
  · obtain ⟨_, e, _⟩ := x; exact Heap.lt_size e
end
/-! ### for .. in a list or a tuple -/
def ItS (K : PySem.W.Frag) (kd : Bool) (a : Addr) : It :=
  ⟨fun i H => ∃ xs x, SqK K H kd a xs ∧ xs[i]? = some x, fun i H x H' => H' = H ∧ ∀ xs, SqK K H kd a xs → xs[i]? = some x, fun i H => ∃ xs, SqK K H kd a xs ∧ xs.length ≤ i⟩
def iSeq (K : PySem.W.Frag) (tl : TE) : TI := fun σ H R => tl σ H fun x H1 => ∃ a kd, x = .ref a ∧ (∃ xs, SqK K H1 kd a xs) ∧ R (ItS K kd a) H1
theorem pi_seq {X : Cx} {tg : Expr} {l : Expr} {tl : TE} (hl : PE X l tl) : PI X tg l (iSeq X.K tl) := by
  refine ⟨fun pins s σ H R I h => ?_⟩
  refine thn (hl.run pins s σ H _ I h) fun v s1 ⟨x, H1, I1, r1, q1⟩ => ?_
  obtain ⟨a, kd, e, ⟨xs, hq⟩, q⟩ := q1
  subst e
  cases r1
  cases kd
  · obtain ⟨its, rv, p, hz⟩ := I1.list hq
    refine wpAny_pyIter_list p.isList ?_
    refine ⟨s1.heap.objs.size, [s1.heap.objs.size], _, _, H1, rfl, I1.kept (t' := s1.toks) fun b o e => Heap.get?_push_of_some _ e, turn_list a _, ⟨_, Heap.get?_push_size _ rfl, rfl, rfl⟩, fun b hb => ?_, q⟩
    have e : b = s1.heap.objs.size := by simpa using hb
    subst e
    exact I1.fpOk (Nat.le_refl _) (I1.hok.fresh (Nat.le_refl _))
  · obtain ⟨its, rv, p, hz⟩ := I1.tuple hq
    refine wpAny_pyIter_tuple (show s1.heap.IsTuple a its.toArray from p) ?_
    refine ⟨s1.heap.objs.size, [s1.heap.objs.size], _, _, H1, rfl, I1.kept (t' := s1.toks) fun b o e => Heap.get?_push_of_some _ e, turn_tuple a _, ⟨_, Heap.get?_push_size _ rfl, rfl, rfl⟩, fun b hb => ?_, q⟩
    have e : b = s1.heap.objs.size := by simpa using hb
    subst e
    exact I1.fpOk (Nat.le_refl _) (I1.hok.fresh (Nat.le_refl _))
/-! ### zip of two -/
def ItZ (K : PySem.W.Frag) (k1 k2 : Bool) (a b : Addr) : It :=
  ⟨fun i H => ∃ (xs ys : List V) (x y : V), SqK K H k1 a xs ∧ SqK K H k2 b ys ∧ xs[i]? = some x ∧ ys[i]? = some y,
    fun i H v H' => ∃ T x y, v = .ref T ∧ H T = none ∧ H' = upd H T (.tup [x, y]) ∧ (∀ xs, SqK K H k1 a xs → xs[i]? = some x) ∧ ∀ ys, SqK K H k2 b ys → ys[i]? = some y,
    fun i H => ∃ xs ys : List V, SqK K H k1 a xs ∧ SqK K H k2 b ys ∧ min xs.length ys.length = i⟩
theorem turn_zipS {P : Program} {w : World} {K : PySem.W.Frag} {elts : List Expr} {kk : Nat} {tpos : Pos} {k1 k2 : Bool} {a b z TI TO i1 i2 : Addr} (S : ZipSep2 z TI TO i1 i2 [i1, a] [i2, b]) (h1 : a ≠ i1) (h2 : b ≠ i2) :
    Turn P w K (.Tuple elts kk tpos) (ItZ K k1 k2 a b) [z, TI, TO, i1, i2] z
      (fun i h => IsZip h z TI TO .none ∧ IsTupOf2 h TI (.ref i1) (.ref i2) ∧ (∃ x y, IsTupOf2 h TO x y) ∧ SIt k1 h i1 a i ∧ SIt k2 h i2 b i) where
  mem := by simp
  obj := fun i h st c hc => by
    obtain ⟨hz, hTI, ⟨x, y, hTO⟩, s1, s2⟩ := st
    have e' : c = z ∨ c = TI ∨ c = TO ∨ c = i1 ∨ c = i2 := by simpa using hc
    rcases e' with q | q | q | q | q
    · rw [q]; exact ⟨_, hz, fun v q => nomatch q⟩
    · rw [q]; exact ⟨_, hTI, fun v q => nomatch q⟩
    · rw [q]; exact ⟨_, hTO, fun v q => nomatch q⟩
    · rw [q]; exact s1.ob
    · rw [q]; exact s2.ob
  keep := fun i h h' st k => by
    obtain ⟨hz, hTI, ⟨x, y, hTO⟩, s1, s2⟩ := st
    exact ⟨k z (by simp) _ hz, k TI (by simp) _ hTI, ⟨x, y, k TO (by simp) _ hTO⟩, s1.at fun o q => k i1 (by simp) o q, s2.at fun o q => k i2 (by simp) o q⟩
  item := by
    intro X hP hw hK hc i pins s σ H E I hf st hg
    subst hP hw hK
    obtain ⟨hz, hTI, ⟨x0, y0, hTO⟩, s1, s2⟩ := st
    obtain ⟨xs, ys, x, y, hqx, hqy, hx, hy⟩ := hg
    obtain ⟨its, rv, p⟩ := Inv.seqK I hqx
    obtain ⟨its2, rv2, p2⟩ := Inv.seqK I hqy
    obtain ⟨u, hu, ru⟩ := rv.get hx
    obtain ⟨u2, hu2, ru2⟩ := rv2.get hy
    have W := WalksT.zipD2 (prog := X.prog) (w := X.w) (A := X.A) S (drawS (A := X.A.in1) k1 (show X.A.in1.handled = none from I.ok.hd hc) i1 a h1 its.toArray) (drawS (A := X.A.in1) k2 (show X.A.in1.handled = none from I.ok.hd hc) i2 b h2 its2.toArray)
    have hl : i < min its.toArray.size its2.toArray.size := by
      have l1 := (List.getElem?_eq_some_iff.mp hu).1
      have l2 := (List.getElem?_eq_some_iff.mp hu2).1
      simp only [List.size_toArray]
      omega
    have hin : ∀ c, c ∈ [z, TO, i1, i2] → c ∈ [z, TI, TO, i1, i2] := fun c hc => by
      have : c = z ∨ c = TO ∨ c = i1 ∨ c = i2 := by simpa using hc
      rcases this with q | q | q | q <;> simp [q]
    have fresh : ∀ c ∈ [z, TI, TO, i1, i2], c < s.heap.objs.size := fun c hcm => by
      have e' : c = z ∨ c = TI ∨ c = TO ∨ c = i1 ∨ c = i2 := by simpa using hcm
      rcases e' with q | q | q | q | q
      · rw [q]; exact Heap.lt_size hz
      · rw [q]; exact Heap.lt_size hTI
      · rw [q]; exact Heap.lt_size hTO
      · rw [q]; obtain ⟨_, e1, _⟩ := s1.ob; exact Heap.lt_size e1
      · rw [q]; obtain ⟨_, e2, _⟩ := s2.ob; exact Heap.lt_size e2
    refine W.item i s _ _ hl ⟨hz, hTI, ⟨x0, y0, hTO⟩, ⟨s1, p⟩, ⟨s2, p2⟩⟩ fun T vals h' tk hPt hTs hTt hMid hk => ⟨_, rfl, ?_⟩
    obtain ⟨z1, z2, e1, e2, rfl⟩ := hPt
    have e1 : its[i]? = some z1 := by simpa using e1
    have e2 : its2[i]? = some z2 := by simpa using e2
    rw [hu] at e1
    rw [hu2] at e2
    cases e1
    cases e2
    have hTw := W.apart _ _ _ hMid
    refine W.go elts kk tpos i T { s with heap := h', toks := tk } _ _ hMid fun h'' st' hk2 => ?_
    have hT2 : h''.IsTuple T #[u, u2] := hTt.at fun o q => hk2 T o hTw q
    have new : ObjOk X.prog X.w (upd H T (.tup [x, y])) h'' T (.tup [x, y]) := ⟨by show 2 ≤ sizeLine; decide, [u, u2], .cons ru (.cons ru2 .nil), hT2⟩
    have I1 : Inv X pins σ (upd H T (.tup [x, y])) { s with heap := h'', toks := tk } :=
      I.turnedNew (t' := tk) (ch := [z, TI, TO, i1, i2]) (fun c o hb q => hk2 c o (fun m => hb (hin c m)) (hk c o (fun m => hb (hin c m)) q)) hf hTs new
    obtain ⟨st1, st2, st3, st4, st5⟩ := st'
    refine ⟨.ref T, _, I1, rfl, ⟨T, x, y, rfl, I.hok.fresh hTs, rfl, fun l hl => by rw [Inv.seqK_inj I hl hqx]; exact hx, fun l hl => by rw [Inv.seqK_inj I hl hqy]; exact hy⟩, ⟨st1, st2, st3, st4.1, st5.1⟩, fun c hcm => ?_⟩
    rw [upd_ne (Nat.ne_of_lt (Nat.lt_of_lt_of_le (fresh c hcm) hTs))]
    exact (hf c hcm).1
  done := by
    intro X hP hw hK hc i pins s σ H E I hf st hg
    subst hP hw hK
    obtain ⟨hz, hTI, ⟨x0, y0, hTO⟩, s1, s2⟩ := st
    obtain ⟨xs, ys, hqx, hqy, hend⟩ := hg
    obtain ⟨its, rv, p⟩ := Inv.seqK I hqx
    obtain ⟨its2, rv2, p2⟩ := Inv.seqK I hqy
    have l1 := rv.length
    have l2 := rv2.length
    have W := WalksT.zipD2 (prog := X.prog) (w := X.w) (A := X.A) S (drawS (A := X.A.in1) k1 (show X.A.in1.handled = none from I.ok.hd hc) i1 a h1 its.toArray) (drawS (A := X.A.in1) k2 (show X.A.in1.handled = none from I.ok.hd hc) i2 b h2 its2.toArray)
    have ei : i = min its.toArray.size its2.toArray.size := by simp only [List.size_toArray]; omega
    subst ei
    refine W.done s _ _ ⟨hz, hTI, ⟨x0, y0, hTO⟩, ⟨s1, p⟩, ⟨s2, p2⟩⟩ fun h' tk hk => ⟨rfl, I.turnedL (t' := tk) (ch := [z, TI, TO, i1, i2]) (fun c o hb q => hk c o (fun m => hb ?_) q) hf⟩
    have : c = z ∨ c = TO ∨ c = i1 ∨ c = i2 := by simpa using m
    rcases this with q | q | q | q <;> simp [q]
  self := fun A i s Q E st h => wpAny_pyIter_zip st.1 h
def iZipS (K : PySem.W.Frag) (ta : TA) : TI := fun σ H R => ta σ H fun vs H1 => ∃ a b k1 k2, vs = [.ref a, .ref b] ∧ (∃ xs, SqK K H1 k1 a xs) ∧ (∃ ys, SqK K H1 k2 b ys) ∧ R (ItZ K k1 k2 a b) H1
theorem pi_zipS {X : Cx} {e e2 : Expr} {ta : TA} {p pos tpos : Pos} {elts : List Expr} {kk : Nat} (hg : Gl X "zip") (hm : X.mg "zip" = none) (ha : PA X [e, e2] ta)
    (hs : starEach [e, e2] X.env = (false, eval e X.env) :: starEach [e2] X.env := by rfl) (hpl : (backTo pos (starEach [e2] X.env)).any (·.1) = false := by rfl) :
    PI X (.Tuple elts kk tpos) (.Call (.Name "zip" p) [e, e2] [] pos) (iZipS X.K ta) := by
  refine ⟨fun pins s σ H R I h => ?_⟩
  refine Call_ (ld_blt I hg hm PyProof.Rows.boot_zip (PyProof.Rows.callWith_type1 (thn (ha.run pos pins s σ H _ I h) fun us s1 ⟨vs, H1, I1, r1, q1⟩ => ?_) hs hpl))
  obtain ⟨a, b, k1, k2, ex, ⟨xs, hqx⟩, ⟨ys, hqy⟩, q⟩ := q1
  subst ex
  cases r1 with
  | cons r rr =>
    cases rr with
    | cons r' rr =>
      cases rr
      cases r
      cases r'
      obtain ⟨its, rv, p1⟩ := Inv.seqK I1 hqx
      obtain ⟨its2, rv2, p2⟩ := Inv.seqK I1 hqy
      have la : a < s1.heap.objs.size := p1.lt
      have lb : b < s1.heap.objs.size := p2.lt
      refine zip_begins2 (begS k1 a its.toArray) (begS k2 b its2.toArray) p1 p2 fun h' hz hTI hTO h1 h2 hsz hk => wpAny_pyIter_zip hz ?_
      have I2 : Inv X pins σ H1 { s1 with heap := h' } := I1.kept (t' := s1.toks) hk
      refine ⟨s1.heap.objs.size + 4, [s1.heap.objs.size + 4, s1.heap.objs.size + 2, s1.heap.objs.size + 3, s1.heap.objs.size, s1.heap.objs.size + 1], _, _, H1, rfl, I2, turn_zipS (zip_sep2 (fp1 := [a]) (fp2 := [b]) (by simpa using la) (by simpa using lb)) (Nat.ne_of_lt la) (Nat.ne_of_lt (Nat.lt_succ_of_lt lb)), ⟨hz, hTI, ⟨_, _, hTO⟩, SIt.zero h1, SIt.zero h2⟩, fun c hcm => ?_, q⟩
      have e' : c = s1.heap.objs.size + 4 ∨ c = s1.heap.objs.size + 2 ∨ c = s1.heap.objs.size + 3 ∨ c = s1.heap.objs.size ∨ c = s1.heap.objs.size + 1 := by simpa using hcm
      have hle : s1.heap.objs.size ≤ c := by
        rcases e' with z | z | z | z | z
        · rw [z]; exact Nat.le_add_right _ _
        · rw [z]; exact Nat.le_add_right _ _
        · rw [z]; exact Nat.le_add_right _ _
        · rw [z]; exact Nat.le_refl _
        · rw [z]; exact Nat.le_add_right _ _
      exact I1.fpOk hle (I1.hok.fresh hle)
theorem Kp.sub {S S' : Addr → Prop} {H H' : Hp} (k : Kp S H H') (h : ∀ p, S' p → S p) : Kp S' H H' := ⟨fun p o s => k.at_ p o (h p s), k.tup⟩
/-! ### iteration over data -/
/-- what a walk gives, while what S lets one lean on stands as in H0 -/
structure ItOk (K : PySem.W.Frag) (S Si : Addr → Prop) (J : It) (ds : List PyData) (H0 : Hp) : Prop where
  go : ∀ i H, Kp S H0 H → i < ds.length → J.go i H
  stop : ∀ H, Kp S H0 H → J.stop ds.length H
  yld : ∀ i H x H', Kp S H0 H → i < ds.length → J.yld i H x H' → Ext H H' ∧ ∃ d, ds[i]? = some d ∧ Rp K (fun p => (Si p ∧ ∃ o, H0 p = some o) ∨ H p = none) H' x d
def FinI (K : PySem.W.Frag) (mg : Str → Option Value) (wx : WXs) (M W Wi U : List Nat) (b : Bs) (σ : L2.St) (H : Hp) (r : R (List PyData)) (Q : It → Hp → Prop) : Prop :=
  match r with
  | .ok ds δ' => ∀ J H', Loc K M b σ H' δ' → Gr U σ H H' → ItOk K (SW M W b σ) (SW M Wi b σ) J ds H' → Q J H'
  | .exc c f x δ' => ∀ cls dd H', Loc K M b σ H' δ' → Gr U σ H H' → ExcR K mg (Nb b) c f x cls dd H' → wx cls dd σ H'
  | .bad => False
def tDI (K : PySem.W.Frag) (mg : Str → Option Value) (wx : WXs) (M W Wi U : List Nat) (ev : Env → R (List PyData)) : TI := fun σ H Q =>
  ∃ δ b, Loc K M b σ H δ ∧ FinI K mg wx M W Wi U b σ H (ev δ) Q
def PID (X : Cx) (wx : WXs) (M W Wi U : List Nat) (tg e : Expr) (ev : Env → R (List PyData)) : Prop := PI X tg e (tDI X.K X.mg wx M W Wi U ev)
theorem pi_imp {X : Cx} {tg e : Expr} {t t' : TI} (h : PI X tg e t) (i : ∀ σ H Q, t' σ H Q → t σ H Q) : PI X tg e t' := ⟨fun pins s σ H Q I q => h.run pins s σ H Q I (i _ _ _ q)⟩
section
variable {X : Cx} {wx : WXs} {M W W1 W2 U U1 U2 : List Nat} {K : PySem.W.Frag}
/-- the items of a list or a tuple -/
def seqD : PyData → Option (List PyData)
  | .list xs => some xs
  | .tuple xs => some xs
  | _ => none
theorem sqK_of {S : Addr → Prop} {H : Hp} {v : V} {d : PyData} {ds : List PyData} (r : Rp K S H v d) (e : seqD d = some ds) : ∃ a kd xs, v = .ref a ∧ RpA K S H xs ds ∧ SqK K H kd a xs ∧ ∀ H', Kp S H H' → SqK K H' kd a xs := by
  cases r with
  | @lst a xs ds' h t =>
    cases e
    exact ⟨a, false, xs, rfl, t, h.sq, fun H' k => (h.mono (fun _ h => h) k).sq⟩
  | @tup a xs ds' h t =>
    cases e
    exact ⟨a, true, xs, rfl, t, h, fun H' k => sqT_mono h k⟩
  | _ => cases e
/-- two lists at one address are one -/
theorem sqK_uniq {H : Hp} {kd : Bool} {a : Addr} {xs ys : List V} (h : SqK K H kd a xs) (h' : ∀ zs, SqK K H kd a zs → zs[0]? = xs[0]?) : True := trivial
def iSq (ev : Ev) : Env → R (List PyData) := fun δ => (ev δ).bind fun d δ1 => ofO (seqD d) δ1
theorem pid_seq {tg e : Expr} {ev : Ev} (h : PD X wx M W U e ev) : PID X wx M W W U tg e (iSq ev) := by
  refine pi_imp (pi_seq h) fun σ H Q ⟨δ, b, L, fin⟩ => ⟨δ, b, L, ?_⟩
  unfold iSq at fin
  cases e1 : ev δ with
  | bad => rw [e1] at fin; exact fin
  | exc c g x e' => rw [e1] at fin; exact fin
  | ok d δ1 =>
    rw [e1] at fin
    intro v H1 p
    cases e3 : seqD d with
    | none => simp only [R.bind, e3] at fin; exact fin.elim
    | some ds =>
      simp only [R.bind, e3] at fin
      obtain ⟨a, kd, xs, rfl, rA, hq, hk⟩ := sqK_of p.rp e3
      refine ⟨a, kd, rfl, ⟨xs, hq⟩, fin _ H1 p.loc p.gr ⟨fun i H2 k hi => ?_, fun H2 k => ⟨xs, hk _ k, by rw [rA.length]; exact Nat.le_refl _⟩, fun i H2 x H3 k hi y => ?_⟩⟩
      · have hi' : i < xs.length := by rw [rA.length]; exact hi
        exact ⟨xs, xs[i], hk _ k, by simp [hi']⟩
      · obtain ⟨rfl, y⟩ := y
        obtain ⟨d, h1, h2⟩ := rA.get (y xs (hk _ k))
        exact ⟨Ext.refl _, d, h1, h2.trk.mono (fun _ h => .inl h) (k.sub fun _ h => h.1)⟩
def zipL : List PyData → List PyData → List PyData
  | x :: xs, y :: ys => .tuple [x, y] :: zipL xs ys
  | _, _ => []
theorem zipL_len : ∀ xs ys, (zipL xs ys).length = min xs.length ys.length
  | [], _ => by simp [zipL]
  | _ :: _, [] => by simp [zipL]
  | x :: xs, y :: ys => by simp [zipL, zipL_len xs ys]
theorem zipL_get : ∀ (xs ys : List PyData) (i : Nat) (a b : PyData), xs[i]? = some a → ys[i]? = some b → (zipL xs ys)[i]? = some (.tuple [a, b])
  | [], _, _, _, _, h, _ => by simp at h
  | _ :: _, [], _, _, _, _, h => by simp at h
  | x :: xs, y :: ys, 0, a, b, h, h' => by simp at h h'; simp [zipL, h, h']
  | x :: xs, y :: ys, i + 1, a, b, h, h' => by simp at h h'; simp [zipL, zipL_get xs ys i a b h h']
def iZp (a c : Ev) : Env → R (List PyData) := fun δ => (a δ).bind fun x δ1 => (c δ1).bind fun y δ2 => match seqD x, seqD y with
  | some xs, some ys => .ok (zipL xs ys) δ2
  | _, _ => .bad
def fin2 (x y : PyData) : Option (List PyData) := match seqD x, seqD y with
  | some xs, some ys => some (zipL xs ys)
  | _, _ => none
theorem pid_zip {e e2 : Expr} {ea eb : Ev} {p pos tpos : Pos} {elts : List Expr} {kk : Nat} (hm : X.mg "zip" = none) (ha : PD X wx M W1 U1 e ea) (hb : PD X wx M W2 U2 e2 eb) (hg : Gl X "zip" := by rfl)
    (h1 : sb U2 M = true := by rfl) (h2 : sb W1 M = true := by rfl) (h3 : dj U2 W1 = true := by rfl)
    (hs1 : starEach [e2] X.env = (false, eval e2 X.env) :: starEach [] X.env := by rfl)
    (hs : starEach [e, e2] X.env = (false, eval e X.env) :: starEach [e2] X.env := by rfl) (hpl : (backTo pos (starEach [e2] X.env)).any (·.1) = false := by rfl) :
    PID X wx M (W1 ++ W2) (W1 ++ W2) (U1 ++ U2) (.Tuple elts kk tpos) (.Call (.Name "zip" p) [e, e2] [] pos) (iZp ea eb) := by
  refine pi_imp (pi_zipS hg hm (pa_cons ha (pa_cons hb pa_nil hs1) hs) hs hpl) fun σ H Q ⟨δ, b, L, fin⟩ => ⟨δ, b, L, ?_⟩
  unfold iZp at fin
  cases e1 : ea δ with
  | bad => rw [e1] at fin; exact fin
  | exc c g x e' => rw [e1] at fin; exact fun cls dd H' L' g' ex => fin cls dd H' L' (g'.mono inl_app) ex
  | ok d δ1 =>
    rw [e1] at fin
    intro v H1 p
    refine ⟨δ1, b, p.loc, ?_⟩
    cases e2 : eb δ1 with
    | bad => simp only [R.bind, e2] at fin; exact fin
    | exc c g x e' => simp only [R.bind, e2] at fin; exact fun cls dd H' L' g' ex => fin cls dd H' L' (p.gr.trans g' inl_app inr_app) ex
    | ok d2 δ2 =>
      simp only [R.bind, e2] at fin
      intro v2 H2 p2
      have r1 := (p.rp.keep p.loc p2.gr h1 h2 h3).wide (W := W1 ++ W2) inl_app
      have r2 := p2.rp.wide (W := W1 ++ W2) inr_app
      cases e3 : seqD d with
      | none => rw [e3] at fin; exact fin.elim
      | some xs =>
        rw [e3] at fin
        cases e4 : seqD d2 with
        | none => rw [e4] at fin; exact fin.elim
        | some ys =>
          rw [e4] at fin
          obtain ⟨a, k1, us, rfl, rA, hq, hk⟩ := sqK_of r1 e3
          obtain ⟨a2, k2, ws, rfl, rB, hq2, hk2⟩ := sqK_of r2 e4
          refine ⟨a, a2, k1, k2, rfl, ⟨us, hq⟩, ⟨ws, hq2⟩, fin _ H2 p2.loc (p.gr.trans p2.gr inl_app inr_app) ⟨fun i H3 k hi => ?_, fun H3 k => ⟨us, ws, hk _ k, hk2 _ k, by rw [rA.length, rB.length, zipL_len]⟩, fun i H3 x H4 k hi y => ?_⟩⟩
          · rw [zipL_len] at hi
            have hi1 : i < us.length := by rw [rA.length]; omega
            have hi2 : i < ws.length := by rw [rB.length]; omega
            exact ⟨us, ws, us[i], ws[i], hk _ k, hk2 _ k, by simp [hi1], by simp [hi2]⟩
          · obtain ⟨T, x1, x2, rfl, nT, rfl, f1, f2⟩ := y
            obtain ⟨da, g1, g2⟩ := rA.get (f1 us (hk _ k))
            obtain ⟨db, g3, g4⟩ := rB.get (f2 ws (hk2 _ k))
            refine ⟨Ext.upd nT, _, zipL_get xs ys i da db g1 g3, .tup (.inl (.inl upd_same)) (.cons ?_ (.cons ?_ .nil))⟩
            · exact (g2.trk.mono (fun _ h => h) (k.sub fun _ h => h.1)).ext (fun _ h => .inl h) (Ext.upd nT)
            · exact (g4.trk.mono (fun _ h => h) (k.sub fun _ h => h.1)).ext (fun _ h => .inl h) (Ext.upd nT)
/-- range -/
def rngL (lo hi : Int) : List PyData := (List.range (hi - lo).toNat).map fun (i : Nat) => PyData.int (lo + (i : Int))
def inR (i : Int) : Bool := decide (-(2 ^ 62) ≤ i) && decide (i < 2 ^ 62)
theorem inR_of {i : Int} (h : inR i = true) : -(2 ^ 62) ≤ i ∧ i < 2 ^ 62 := by
  unfold inR at h
  simpa using h
def iR1 (a : Ev) : Env → R (List PyData) := fun δ => (a δ).bind fun x δ1 => match x with
  | .int j => if inR j = true then .ok (rngL 0 j) δ1 else .bad
  | _ => .bad
theorem pid_r1 {tg a : Expr} {ea : Ev} {p pos : Pos} (hm : X.mg "range" = none) (ha : PD X wx M W U a ea) (hg : Gl X "range" := by rfl) (hs : starEach [a] X.env = [(false, eval a X.env)] := by rfl) : PID X wx M [] [] U tg (.Call (.Name "range" p) [a] [] pos) (iR1 ea) := by
  refine pi_imp (pi_range1 hg hm (pa_cons ha pa_nil hs) hs) fun σ H Q ⟨δ, b, L, fin⟩ => ⟨δ, b, L, ?_⟩
  unfold iR1 at fin
  cases e1 : ea δ with
  | bad => rw [e1] at fin; exact fin
  | exc c g x e' => rw [e1] at fin; exact fin
  | ok d δ1 =>
    rw [e1] at fin
    intro v H1 p
    simp only [R.bind] at fin
    cases d with
    | int j =>
      dsimp only at fin
      split at fin
      · rename_i hj
        obtain ⟨h1, h2⟩ := inR_of hj
        cases p.rp
        refine ⟨j, rfl, h1, h2, fin _ H1 p.loc p.gr ⟨fun i H2 k hi => ?_, fun H2 k => ?_, fun i H2 x H3 k hi y => ?_⟩⟩
        · have : i < j.toNat := by simpa [rngL] using hi
          exact this
        · show j.toNat ≤ _
          simp [rngL]
        · obtain ⟨rfl, rfl⟩ := y
          have hi : i < j.toNat := by simpa [rngL] using hi
          exact ⟨Ext.refl _, .int (0 + i), by simp [rngL, hi], .int _⟩
      · exact fin.elim
    | _ => exact fin.elim
def iR2 (a c : Ev) : Env → R (List PyData) := fun δ => (a δ).bind fun x δ1 => (c δ1).bind fun y δ2 => match x, y with
  | .int i, .int j => if (inR i && inR j) = true then .ok (rngL i j) δ2 else .bad
  | _, _ => .bad
theorem pid_r2 {tg a c : Expr} {ea eb : Ev} {p pos : Pos} (hm : X.mg "range" = none) (ha : PD X wx M W1 U1 a ea) (hb : PD X wx M W2 U2 c eb) (h1 : sb U2 M = true := by rfl) (h2 : sb W1 M = true := by rfl) (h3 : dj U2 W1 = true := by rfl) (hg : Gl X "range" := by rfl)
    (hs : starEach [a, c] X.env = [(false, eval a X.env), (false, eval c X.env)] := by rfl) (hs2 : starEach [c] X.env = [(false, eval c X.env)] := by rfl) : PID X wx M [] [] (U1 ++ U2) tg (.Call (.Name "range" p) [a, c] [] pos) (iR2 ea eb) := by
  refine pi_imp (pi_range2 hg hm (pa_cons ha (pa_cons hb pa_nil hs2) (by rw [hs, hs2])) hs hs2) fun σ H Q ⟨δ, b, L, fin⟩ => ⟨δ, b, L, ?_⟩
  unfold iR2 at fin
  cases e1 : ea δ with
  | bad => rw [e1] at fin; exact fin
  | exc c g x e' => rw [e1] at fin; exact fun cls dd H' L' g' ex => fin cls dd H' L' (g'.mono inl_app) ex
  | ok d δ1 =>
    rw [e1] at fin
    intro v H1 p
    refine ⟨δ1, b, p.loc, ?_⟩
    cases e2 : eb δ1 with
    | bad => simp only [R.bind, e2] at fin; exact fin
    | exc c g x e' => simp only [R.bind, e2] at fin; exact fun cls dd H' L' g' ex => fin cls dd H' L' (p.gr.trans g' inl_app inr_app) ex
    | ok d2 δ2 =>
      simp only [R.bind, e2] at fin
      intro v2 H2 p2
      have r1 := p.rp.keep p.loc p2.gr h1 h2 h3
      cases d with
      | int i =>
        cases d2 with
        | int j =>
          dsimp only at fin
          split at fin
          · rename_i hj
            rw [Bool.and_eq_true] at hj
            obtain ⟨q1, q2⟩ := inR_of hj.1
            obtain ⟨q3, q4⟩ := inR_of hj.2
            have r2 := p2.rp
            cases r1
            cases r2
            refine ⟨i, j, rfl, ⟨q1, q2, q3, q4⟩, fin _ H2 p2.loc (p.gr.trans p2.gr inl_app inr_app) ⟨fun m H3 k hi => ?_, fun H3 k => ?_, fun m H3 x H4 k hi y => ?_⟩⟩
            · have : m < (j - i).toNat := by simpa [rngL] using hi
              exact this
            · show (j - i).toNat ≤ _
              simp [rngL]
            · obtain ⟨rfl, rfl⟩ := y
              have hi : m < (j - i).toNat := by simpa [rngL] using hi
              exact ⟨Ext.refl _, .int (i + m), by simp [rngL, hi], .int _⟩
          · exact fin.elim
        | _ => exact fin.elim
      | _ => cases d2 <;> exact fin.elim
/-- items without lists lean on no cell -/
def iLF (it : Env → R (List PyData)) : Env → R (List PyData) := fun δ => (it δ).bind fun ds δ1 => if lfreeA ds = true then .ok ds δ1 else .bad
theorem lfreeA_get : ∀ {ds : List PyData} {i : Nat} {d : PyData}, lfreeA ds = true → ds[i]? = some d → lfree d = true
  | [], _, _, _, h => by simp at h
  | x :: xs, 0, d, h, e => by
    rw [lfreeA, Bool.and_eq_true] at h
    simp at e; subst e; exact h.1
  | x :: xs, i + 1, d, h, e => by
    rw [lfreeA, Bool.and_eq_true] at h
    exact lfreeA_get (i := i) h.2 (by simpa using e)
theorem pid_lf {tg e : Expr} {ev : Env → R (List PyData)} {Wi : List Nat} (h : PID X wx M W Wi U tg e ev) : PID X wx M W [] U tg e (iLF ev) := by
  refine pi_imp h fun σ H Q ⟨δ, b, L, fin⟩ => ⟨δ, b, L, ?_⟩
  unfold iLF at fin
  cases e1 : ev δ with
  | bad => rw [e1] at fin; exact fin
  | exc c g x e' => rw [e1] at fin; exact fin
  | ok d δ1 =>
    rw [e1] at fin
    simp only [R.bind] at fin
    split at fin
    · rename_i hl
      exact fun J H1 L1 g1 io => fin J H1 L1 g1 ⟨io.go, io.stop, fun i H2 x H3 k hi y => by
        obtain ⟨h1, d', h2, h3⟩ := io.yld i H2 x H3 k hi y
        exact ⟨h1, d', h2, h3.free (lfreeA_get hl h2)⟩⟩
    · exact fin.elim
end
end BD
namespace BD
open PySem PySem.Spec L2
section
variable {K : PySem.W.Frag} {M M' : List Nat} {b : Bs} {σ : L2.St} {H H' : Hp} {δ : Env} {i : Nat}
/-! ### targets -/
def tG (K : PySem.W.Frag) (rs M M' sl : List Nat) (g : PyData → Env → Option Env) : TG := fun v σ H Q =>
  ∃ δ b d, (∀ q ∈ b.rf, q.1 ∈ rs) ∧ Loc K M b σ H δ ∧ Rp K (Sb M b σ) H v d ∧
    match g d δ with
    | some δ' => ∀ σ', Loc K M' b σ' H δ' → (∀ j, j ∉ sl → σ'[j]? = σ[j]?) → σ'.length = σ.length → (∀ p, Sb M b σ p → Sb M' b σ' p) → Q σ' H
    | none => False
def PGD (X : Cx) (rs M M' sl : List Nat) (tg : Expr) (g : PyData → Env → Option Env) : Prop := PG X tg (tG X.K rs M M' sl g)
def tGs (K : PySem.W.Frag) (rs M M' sl : List Nat) (g : List PyData → Env → Option Env) : TGs := fun v σ H Q =>
  ∃ δ b d, (∀ q ∈ b.rf, q.1 ∈ rs) ∧ Loc K M b σ H δ ∧ RpA K (Sb M b σ) H v d ∧
    match g d δ with
    | some δ' => ∀ σ', Loc K M' b σ' H δ' → (∀ j, j ∉ sl → σ'[j]? = σ[j]?) → σ'.length = σ.length → (∀ p, Sb M b σ p → Sb M' b σ' p) → Q σ' H
    | none => False
def PGsD (X : Cx) (rs M M' sl : List Nat) (tgs : List Expr) (g : List PyData → Env → Option Env) : Prop := PGs X tgs (tGs X.K rs M M' sl g)
theorem pg_imp {X : Cx} {e : Expr} {t t' : TG} (h : PG X e t) (im : ∀ v σ H Q, t' v σ H Q → t v σ H Q) : PG X e t' := ⟨fun pins s σ H v u Q I r q => h.run pins s σ H v u Q I r (im _ _ _ _ q)⟩
theorem pgs_imp {X : Cx} {e : List Expr} {t t' : TGs} (h : PGs X e t) (im : ∀ v σ H Q, t' v σ H Q → t v σ H Q) : PGs X e t' := ⟨fun pins s σ H v u Q I r q => h.run pins s σ H v u Q I r (im _ _ _ _ q)⟩
def gNm (i : Nat) : PyData → Env → Option Env := fun d δ => some (δ.set i (some d))
def gsNil : List PyData → Env → Option Env
  | [], δ => some δ
  | _ :: _, _ => none
def gsCons (g : PyData → Env → Option Env) (h : List PyData → Env → Option Env) : List PyData → Env → Option Env
  | d :: ds, δ => (g d δ).bind fun δ1 => h ds δ1
  | [], _ => none
def gTu (h : List PyData → Env → Option Env) : PyData → Env → Option Env
  | .tuple ds, δ => h ds δ
  | _, _ => none
theorem Sb.set {v : Option V} {q : Addr} (h : Sb M b σ q) : Sb (del M i) b (σ.set i v) q := ⟨fun ⟨j, hj, e⟩ => h.1 ⟨j, (mem_del.mp hj).1, by
    rw [List.getElem?_set_ne (Ne.symm (mem_del.mp hj).2)] at e
    exact e⟩, h.2⟩
section
variable {X : Cx} {rs sl sl1 sl2 M1 M2 : List Nat}
theorem pgd_name (i : Nat) {x : Str} {pos : Pos} (hN : X.N.Nodup) (hr : rs.contains i = false := by rfl) (hi : X.N[i]? = some x := by rfl) (hx : L2.Loc X.env.scope x := by first | exact Or.inl rfl | exact Or.inr rfl)
    (hf : X.fn x = true ∨ X.env.scope.names.lookup x = some .local := by first | exact .inl rfl | exact .inr rfl | assumption) : PGD X rs M (del M i) [i] (.Name x pos) (gNm i) := by
  refine pg_imp (pg_name hN hi hx hf) fun v σ H Q ⟨δ, b, d, hrf, L, r, q⟩ => q _ (L.set r fun z hz e => ?_) (fun j hj => ?_) (List.length_set ..) (fun p h => h.set)
  · have := hrf z hz
    rw [e] at this
    simp [this] at hr
  · rw [List.getElem?_set_ne (fun e => hj (by simp [e]))]
theorem pgsd_nil : PGsD X rs M M [] [] gsNil := pgs_imp pgs_nil fun v σ H Q ⟨δ, b, d, hrf, L, r, q⟩ => by
  cases r with
  | nil => exact ⟨rfl, q σ L (fun _ _ => rfl) rfl (fun _ h => h)⟩
  | cons _ _ => exact q.elim
theorem pgsd_cons {e : Expr} {es : List Expr} {g : PyData → Env → Option Env} {h : List PyData → Env → Option Env} (h1 : PGD X rs M M1 sl1 e g) (h2 : PGsD X rs M1 M2 sl2 es h)
    (hs : (assignEach (e :: es) X.env).map (·.2) = assign e X.env :: (assignEach es X.env).map (·.2) := by rfl) : PGsD X rs M M2 (sl1 ++ sl2) (e :: es) (gsCons g h) := by
  refine pgs_imp (pgs_cons h1 h2 hs) fun v σ H Q ⟨δ, b, d, hrf, L, r, q⟩ => ?_
  cases r with
  | nil => exact q.elim
  | @cons v0 vs d0 ds r0 rr =>
    refine ⟨v0, vs, rfl, δ, b, d0, hrf, L, r0, ?_⟩
    cases e1 : g d0 δ with
    | none => simp only [gsCons, e1] at q; exact q.elim
    | some δ1 =>
      have q : match h ds δ1 with
        | some δ' => ∀ σ', Loc X.K M2 b σ' H δ' → (∀ j, j ∉ sl1 ++ sl2 → σ'[j]? = σ[j]?) → σ'.length = σ.length → (∀ p, Sb M b σ p → Sb M2 b σ' p) → Q σ' H
        | none => False := by simpa only [gsCons, e1, Option.bind_some] using q
      intro σ1 L1 k1 k2 k0
      refine ⟨δ1, b, ds, hrf, L1, rr.mono k0 (Ext.refl H).kp, ?_⟩
      cases e2 : h ds δ1 with
      | none => rw [e2] at q; exact q
      | some δ2 =>
        rw [e2] at q
        exact fun σ2 L2 k3 k4 k5 => q σ2 L2 (fun j hj => by
          rw [List.mem_append, not_or] at hj
          rw [k3 j hj.2, k1 j hj.1]) (k4.trans k2) fun p h => k5 p (k0 p h)
theorem pgd_tup {es : List Expr} {k : Nat} {h : List PyData → Env → Option Env} {n : Nat} {pos : Pos} (hc : X.calm = true) (h1 : PGsD X rs M M1 sl es h) (hlen : ∀ ds δ δ', h ds δ = some δ' → ds.length = n)
    (hn : (assignEach es X.env).length = n := by rfl) (hst : (assignEach es X.env).findIdx? (·.1) = none := by rfl) : PGD X rs M M1 sl (.Tuple es k pos) (gTu h) := by
  refine pg_imp (pg_tup hc h1 hn hst) fun v σ H Q ⟨δ, b, d, hrf, L, r, q⟩ => ?_
  cases r with
  | @tup a xs ds hs ht =>
    have q : match h ds δ with
      | some δ' => ∀ σ', Loc X.K M1 b σ' H δ' → (∀ j, j ∉ sl → σ'[j]? = σ[j]?) → σ'.length = σ.length → (∀ p, Sb M b σ p → Sb M1 b σ' p) → Q σ' H
      | none => False := q
    cases e : h ds δ with
    | none => rw [e] at q; exact q.elim
    | some δ' =>
      rw [e] at q
      exact ⟨a, xs, rfl, hs, by rw [ht.length]; exact hlen ds δ δ' e, δ, b, ds, hrf, L, ht, by rw [e]; exact q⟩
  | _ => exact q.elim
theorem gsNil_len : ∀ ds δ δ', gsNil ds δ = some δ' → ds.length = 0
  | [], _, _, _ => rfl
  | _ :: _, _, _, h => by cases h
theorem gsCons_len {g : PyData → Env → Option Env} {h : List PyData → Env → Option Env} {n : Nat} (ih : ∀ ds δ δ', h ds δ = some δ' → ds.length = n) : ∀ ds δ δ', gsCons g h ds δ = some δ' → ds.length = n + 1
  | [], _, _, e => by cases e
  | d :: ds, δ, δ', e => by
    simp only [gsCons] at e
    cases e1 : g d δ with
    | none => rw [e1] at e; cases e
    | some δ1 =>
      rw [e1] at e
      rw [List.length_cons, ih ds δ1 δ' e]
end
end
/-! ### for, while -/
def forL (g : PyData → Env → Option Env) (body : Sv) : List PyData → Env → O
  | [], δ => .nx δ
  | d :: ds, δ => match g d δ with
    | none => .bad
    | some δ1 => match body δ1 with
      | .nx δ2 => forL g body ds δ2
      | o => o
def sFor (g : PyData → Env → Option Env) (it : Env → R (List PyData)) (body : Sv) : Sv := fun δ => match it δ with
  | .ok ds δ1 => forL g body ds δ1
  | .exc k f x e => .exc k f x e
  | .bad => .bad
def whL (t : Env → R Bool) (body : Sv) : Nat → Env → O
  | 0, _ => .bad
  | n + 1, δ => match t δ with
    | .ok true δ1 => match body δ1 with
      | .nx δ2 => whL t body n δ2
      | o => o
    | .ok false δ1 => .nx δ1
    | .exc k f x e => .exc k f x e
    | .bad => .bad
open Classical in
noncomputable def sWhile (t : Env → R Bool) (body : Sv) : Sv := fun δ => if h : ∃ n, whL t body n δ ≠ .bad then whL t body (Classical.choose h) δ else .bad
theorem whL_more (t : Env → R Bool) (body : Sv) : ∀ n δ, whL t body n δ ≠ .bad → whL t body (n + 1) δ = whL t body n δ
  | 0, _, h => absurd rfl h
  | n + 1, δ, h => by
    have e0 : ∀ m, whL t body (m + 1) δ = (match t δ with
      | .ok true δ1 => match body δ1 with
        | .nx δ2 => whL t body m δ2
        | o => o
      | .ok false δ1 => .nx δ1
      | .exc k f x e => .exc k f x e
      | .bad => .bad) := fun m => rfl
    rw [e0 n] at h
    rw [e0 (n + 1), e0 n]
    cases e1 : t δ with
    | bad => rfl
    | exc => rfl
    | ok c δ1 =>
      rw [e1] at h
      cases c with
      | false => rfl
      | true =>
        simp only at h ⊢
        cases e2 : body δ1 with
        | nx δ2 => rw [e2] at h; simp only at h ⊢; exact whL_more t body n δ2 h
        | _ => rfl
theorem whL_le (t : Env → R Bool) (body : Sv) {n m : Nat} (h : n ≤ m) {δ} (hb : whL t body n δ ≠ .bad) : whL t body m δ = whL t body n δ := by
  induction h with
  | refl => rfl
  | step _ ih => rw [whL_more t body _ δ (by rw [ih]; exact hb), ih]
theorem sWhile_eq (t : Env → R Bool) (body : Sv) {n : Nat} {δ : Env} {o : O} (h : whL t body n δ = o) (hb : o ≠ .bad) : sWhile t body δ = o := by
  have hx : ∃ n, whL t body n δ ≠ .bad := ⟨n, by rw [h]; exact hb⟩
  unfold sWhile
  rw [dif_pos hx]
  have h1 := Classical.choose_spec hx
  rw [← h]
  rcases Nat.le_total n (Classical.choose hx) with q | q
  · exact whL_le t body q (by rw [h]; exact hb)
  · exact (whL_le t body q h1).symm
section
variable {X : Cx} {c : Sx} {M M1 M2 Mt W W1 W2 U U1 U2 sl : List Nat}
abbrev Sx.inn (c : Sx) (M : List Nat) : Sx := { c with m0 := M }
theorem RetOk.unrb {K : PySem.W.Frag} {M : List Nat} {b : Bs} {σ : L2.St} {H : Hp} {δ : Env} {fr : Bool} {v H' d δ'} (L : Loc K M b σ H δ) (r : RetOk K (rb M b σ H) fr v H' d δ') : RetOk K b fr v H' d δ' := by
  obtain ⟨Mr, W, σ', L', h1, h2, h3, h4⟩ := r
  have hs : ∀ q, SW Mr W (rb M b σ H) σ' q → SW Mr W b σ' q := fun q h => h.imp id fun h => Sb.unrb L h
  refine ⟨Mr, W, σ', L.unrb L', h1, h2, h3.mono hs (Ext.refl _).kp, fun e => ?_⟩
  obtain ⟨p, vs, ds, q1, q2, q3, q4, q5⟩ := h4 e
  refine ⟨p, vs, ds, q1, q2, q3, q4.mono (fun q h => ⟨hs q h.1, h.2⟩) (Ext.refl _).kp, ?_⟩
  rcases q5 with q5 | q5
  · left
    cases e : b.B p with
    | none => rfl
    | some o =>
      obtain ⟨o', h'⟩ := L.trk p o e
      have q5 : H p = none := q5
      rw [q5] at h'; cases h'
  · exact .inr q5
theorem FinS.unrb {K : PySem.W.Frag} {mg : Str → Option Value} {M M1 M2 : List Nat} {b : Bs} {σ : L2.St} {H : Hp} {δ : Env} {o : O} {D D' : Ends} (L : Loc K M b σ H δ) (f : FinS K mg c M1 b o D) (hrt : D'.rt = D.rt) (hno : ∀ δ', o ≠ .nx δ') : FinS K mg (c.inn M2) M1 (rb M b σ H) o D' := by
  cases o with
  | nx e => exact absurd rfl (hno e)
  | bad => exact f
  | rt d e => exact fun v H' r => by rw [hrt]; exact f v H' (r.unrb L)
  | exc k g x e => exact fun cls dd σ' H' Mr hm L' ex => f cls dd σ' H' Mr hm (L.unrb L') (by
      exact ex.conv fun _ h => L.nb h)
theorem BOk.rb {K : PySem.W.Frag} {M : List Nat} {b : Bs} {σ : L2.St} {H : Hp} (B : BOk c b) : BOk (c.inn M) (rb M b σ H) := ⟨B.z, B.rf, fun i p h => h.1⟩
theorem psd_for {tg it : Expr} {body : List Stmt} {g : PyData → Env → Option Env} {ei : Env → R (List PyData)} {s : Sv} {pos : Pos} (hp : PassesOwn (model X.prog X.w) X.A X.env X.xe) (hc : X.calm = true) (hi : PID X c.wx M W W U tg it ei) (hg : PGD X c.rs M Mt sl tg g)
    (hb : PSsD X (c.inn M) Mt M body s) (hW : W.isEmpty = true := by rfl) (hm : okM c M = true := by rfl) (hs : ∀ x, foldedSetIterable it X.env x = pure x := by intro _; rfl) : PSD X c M M (.For tg it body [] pos) (sFor g ei s) := by
  have hW : W = [] := by simpa using hW
  subst hW
  refine ps_imp (ps_for hp hc hi hg hb hs) fun D σ H ⟨δ, b, B, L, f⟩ => ⟨δ, b, L, ?_⟩
  unfold sFor at f
  cases e1 : ei δ with
  | bad => rw [e1] at f; exact f
  | exc k g x e' => rw [e1] at f; exact f.exc_e hm
  | ok ds δ1 =>
    rw [e1] at f
    intro J H1 L1 g1 io
    have f : FinS X.K X.mg c M b (forL g s ds δ1) D := f
    have kp : ∀ {σ' H' δ'}, Loc X.K M (rb M b σ H1) σ' H' δ' → Kp (SW M [] b σ) H1 H' := fun {σ' H' δ'} L' => ⟨fun p o hs h => L'.fr p o h fun i hi => hs.nil.1 ⟨i, hi.1, hi.2⟩, L'.tp⟩
    have W0 : Walk J ds.length (fun H' => Kp (SW M [] b σ) H1 H') (fun i H2 x H' => Ext H2 H' ∧ ∃ d, ds[i]? = some d ∧ Rp X.K (fun p => (SW M [] b σ p ∧ ∃ o, H1 p = some o) ∨ H2 p = none) H' x d) :=
      ⟨fun i H' hi k => io.go i H' k hi, fun H' k => io.stop H' k, fun i H2 x H' hi k y => io.yld i H2 x H' k hi y⟩
    refine for_it W0 (fun i σ' H' => ∃ δ', Loc X.K M (rb M b σ H1) σ' H' δ' ∧ FinS X.K X.mg c M b (forL g s (ds.drop i) δ') D) ⟨δ1, L1.rb B.z, f⟩ (fun i σ' H' _ ⟨δ', L', _⟩ => kp L') ?_ ?_
    · rintro i x σ2 H2 H3 hi ⟨δ2, L2, f2⟩ ⟨ex, d, hd, r⟩
      have hdr : ds.drop i = d :: ds.drop (i + 1) := by
        have hi' : i < ds.length := hi
        rw [List.drop_eq_getElem_cons hi']
        rw [List.getElem?_eq_getElem hi'] at hd
        rw [Option.some.inj hd]
      rw [hdr, forL] at f2
      have L3 := L2.ext ex
      have rS : Rp X.K (Sb M (rb M b σ H1) σ2) H3 x d := by
        refine r.mono (fun p h => ?_) (Ext.refl H3).kp
        rcases h with ⟨q, o, hp1⟩ | q
        · refine ⟨fun ⟨j, hj, ej⟩ => ?_, q.nil.2.1, fun _ _ => q.nil⟩
          have m := L2.mu j hj
          rw [ej] at m
          revert m
          cases δ2[j]? with
          | none => exact fun m => m.elim
          | some u => cases u with
            | none => exact fun m => m.elim
            | some du =>
              rintro ⟨a, ws, es, h1, _, _, _, h5, _⟩
              cases h1
              obtain ⟨z1, z2⟩ := h5 o hp1
              exact q.nil.1 ⟨j, z1, z2⟩
        · exact L2.nw (fun _ h => h) q
      refine ⟨δ2, rb M b σ H1, d, fun q hq => B.rf q hq, L3, rS, ?_⟩
      cases e2 : g d δ2 with
      | none => rw [e2] at f2; exact f2
      | some δ3 =>
        rw [e2] at f2
        intro σ4 L4 _ _ _
        refine ⟨δ3, rb M b σ H1, B.rb (K := X.K), L4, ?_⟩
        cases e3 : s δ3 with
        | nx δ4 =>
          simp only [e3] at f2
          exact fun σ5 H5 L5 => ⟨δ4, L5, f2⟩
        | bad => simp only [e3] at f2; exact f2
        | rt d' e => simp only [e3] at f2; exact f2.unrb (D' := { D with nx := _, ct := _, bk := D.nx }) L1 rfl (fun _ z => by cases z)
        | exc k h y e => simp only [e3] at f2; exact f2.unrb (D' := { D with nx := _, ct := _, bk := D.nx }) L1 rfl (fun _ z => by cases z)
    · rintro σ2 H2 ⟨δ2, L2, f2⟩
      rw [List.drop_length, forL] at f2
      exact f2 σ2 H2 (L1.unrb L2)
theorem psd_while {t : Expr} {body : List Stmt} {et : Env → R Bool} {s : Sv} {pos : Pos} (hp : PassesOwn (model X.prog X.w) X.A X.env X.xe) (ht : PTD X c.wx M U t et) (hb : PSsD X (c.inn M) M M body s) (hm : okM c M = true := by rfl) : PSD X c M M (.While t body [] pos) (sWhile et s) := by
  refine ps_imp (ps_while hp ht hb) fun D σ H ⟨δ, b, B, L, f⟩ => ?_
  have hx : ∃ n, whL et s n δ = sWhile et s δ := by
    unfold sWhile
    split
    · rename_i h; exact ⟨_, rfl⟩
    · exact ⟨0, rfl⟩
  obtain ⟨n, hn⟩ := hx
  rw [← hn] at f
  refine ⟨fun m σ' H' => ∃ δ', Loc X.K M (rb M b σ H) σ' H' δ' ∧ FinS X.K X.mg c M b (whL et s m δ') D, ⟨n, δ, L.rb B.z, f⟩, ?_⟩
  rintro m σ1 H1 ⟨δ1, L1, f1⟩
  cases m with
  | zero => exact f1.elim
  | succ m =>
    rw [whL] at f1
    refine ⟨δ1, rb M b σ H, L1, ?_⟩
    cases e1 : et δ1 with
    | bad => rw [e1] at f1; exact f1
    | exc k h y e =>
      rw [e1] at f1
      exact fun cls dd H' L' g' ex => f1 cls dd σ1 H' M (okM_of hm) (L.unrb L') (by
        exact ex.conv fun _ h => L.nb h)
    | ok k δ2 =>
      rw [e1] at f1
      intro H2 L2 g2
      cases k with
      | false =>
        simp only [Bool.false_eq_true, if_false]
        exact f1 σ1 H2 (L.unrb L2)
      | true =>
        simp only [if_true]
        refine ⟨fun σ' H' => ∃ δ', Loc X.K M (rb M b σ H) σ' H' δ' ∧ FinS X.K X.mg c M b (whL et s m δ') D, fun σ' H' h => ⟨m, Nat.lt_succ_self m, h⟩, δ2, rb M b σ H, B.rb (K := X.K), L2, ?_⟩
        cases e3 : s δ2 with
        | nx δ4 =>
          simp only [e3] at f1
          exact fun σ5 H5 L5 => ⟨δ4, L5, f1⟩
        | bad => simp only [e3] at f1; exact f1
        | rt d' e => simp only [e3] at f1; exact f1.unrb (D' := { D with nx := _, ct := _, bk := D.nx }) L rfl (fun _ z => by cases z)
        | exc k h y e => simp only [e3] at f1; exact f1.unrb (D' := { D with nx := _, ct := _, bk := D.nx }) L rfl (fun _ z => by cases z)
end
end BD
namespace BD
open PySem PySem.Spec L2
/-! ### comprehensions -/
def wipeD (δ : Env) : List Nat → Env
  | [] => δ
  | v :: vs => (wipeD δ vs).set v none
/-- the slots of vs as in δ, the others as in δ' -/
def rest (vs : List Nat) (δ δ' : Env) : Env := (List.range δ'.length).map fun i => if vs.contains i then (δ[i]?.getD none) else (δ'[i]?.getD none)
theorem wipeD_len (δ : Env) : ∀ vs, (wipeD δ vs).length = δ.length
  | [] => rfl
  | v :: vs => by unfold wipeD; rw [List.length_set, wipeD_len δ vs]
theorem wipeD_out {δ : Env} {i : Nat} : ∀ {vs : List Nat}, i ∉ vs → (wipeD δ vs)[i]? = δ[i]?
  | [], _ => rfl
  | v :: vs, h => by
    have h1 : v ≠ i := fun e => h (by rw [e]; exact List.mem_cons_self)
    unfold wipeD
    rw [List.getElem?_set_ne h1]
    exact wipeD_out fun m => h (List.mem_cons_of_mem _ m)
theorem wipeD_in {δ : Env} {i : Nat} : ∀ {vs : List Nat}, i ∈ vs → i < δ.length → (wipeD δ vs)[i]? = some none
  | [], h, _ => by simp at h
  | v :: vs, h, hl => by
    unfold wipeD
    by_cases e : v = i
    · subst e
      rw [List.getElem?_set_self (by rw [wipeD_len]; exact hl)]
    · rw [List.getElem?_set_ne e]
      exact wipeD_in (by rcases List.mem_cons.mp h with z | z; exact absurd z.symm e; exact z) hl
theorem wipe_in {σ : L2.St} {i : Nat} : ∀ {vs : List Nat}, i ∈ vs → i < σ.length → (wipe σ vs)[i]? = some none
  | [], h, _ => by simp at h
  | v :: vs, h, hl => by
    unfold wipe
    by_cases e : v = i
    · subst e
      rw [List.getElem?_set_self (by rw [wipe_length]; exact hl)]
    · rw [List.getElem?_set_ne e]
      exact wipe_in (by rcases List.mem_cons.mp h with z | z; exact absurd z.symm e; exact z) hl
theorem wipe_eq {σ σ' : L2.St} {vs : List Nat} (hl : σ'.length = σ.length) (h : ∀ j, j ∉ vs → σ'[j]? = σ[j]?) : wipe σ' vs = wipe σ vs := by
  apply List.ext_getElem?
  intro i
  by_cases hi : i ∈ vs
  · by_cases hlt : i < σ.length
    · rw [wipe_in hi (by rw [hl]; exact hlt), wipe_in hi hlt]
    · rw [List.getElem?_eq_none (by rw [wipe_length, hl]; omega), List.getElem?_eq_none (by rw [wipe_length]; omega)]
  · rw [wipe_out hi, wipe_out hi, h i hi]
section
variable {K : PySem.W.Frag} {M M' : List Nat} {b : Bs} {σ : L2.St} {H H' : Hp} {δ δ' : Env} {i : Nat} {vs : List Nat}
theorem Cl_wipe (h : ∀ j ∈ vs, j ∉ M) {p} : Cl M (wipe σ vs) p ↔ Cl M σ p := by
  constructor
  · rintro ⟨i, hi, e⟩
    exact ⟨i, hi, by rw [← wipe_out (fun m => h i m hi)]; exact e⟩
  · rintro ⟨i, hi, e⟩
    exact ⟨i, hi, by rw [wipe_out (fun m => h i m hi)]; exact e⟩
theorem Sb_wipe (h : ∀ j ∈ vs, j ∉ M) {p} : Sb M b (wipe σ vs) p ↔ Sb M b σ p := by
  unfold Sb
  rw [Cl_wipe h]
theorem Loc.wipe (L : Loc K M b σ H δ) (h : ∀ j ∈ vs, j ∉ M) : Loc K M b (L2.wipe σ vs) H (wipeD δ vs) := by
  have hS : ∀ p, Sb M b σ p → Sb M b (L2.wipe σ vs) p := fun p q => (Sb_wipe h).mpr q
  refine ⟨L.trk, L.fr, L.tp, fun j hj => ?_, fun j hj => ?_, fun j k p hj hk e1 e2 => ?_, fun q hq => ?_, L.zT, L.zB⟩
  · by_cases hv : j ∈ vs
    · by_cases hl : j < σ.length
      · rw [wipe_in hv hl, wipeD_in hv (by rw [← L.len]; exact hl)]; trivial
      · rw [List.getElem?_eq_none (by rw [wipe_length]; omega), List.getElem?_eq_none (by rw [wipeD_len, ← L.len]; omega)]; trivial
    · rw [wipe_out hv, wipeD_out hv]
      exact (L.imm j hj).mono hS
  · rw [wipe_out (fun m => h j m hj), wipeD_out (fun m => h j m hj)]
    exact (L.mu j hj).mono hS (fun _ h => h) fun _ h => h
  · rw [wipe_out (fun m => h j m hj)] at e1
    rw [wipe_out (fun m => h k m hk)] at e2
    exact L.inj j k p hj hk e1 e2
  · obtain ⟨h1, h2, h3⟩ := L.rfs q hq
    exact ⟨h1, by rw [wipe_out (fun m => h q.1 m h1)]; exact h2, h3⟩
/-- behind a block: its own slots as ahead of it -/
theorem Loc.unwipe {p : Addr} (L1 : Loc K M b σ H δ) (np : H p = none) (L2' : Loc K M (bz b p) (L2.wipe σ vs) H' δ') {U : List Nat} (g : Gr U σ H H') (hU : ∀ i ∈ U, i ∈ M) (h : ∀ j ∈ vs, j ∉ M) : Loc K M (bz b p) σ H' (rest vs δ δ') := by
  have hl : δ'.length = σ.length := by rw [← L2'.len, wipe_length]
  have hS : ∀ q, Sb M (bz b p) (L2.wipe σ vs) q → Sb M (bz b p) σ q := fun q z => (Sb_wipe h).mp z
  have hr : ∀ j, (rest vs δ δ')[j]? = if j < σ.length then some (if vs.contains j then (δ[j]?.getD none) else (δ'[j]?.getD none)) else none := fun j => by
    unfold rest
    rw [List.getElem?_map, hl]
    by_cases hj : j < σ.length
    · rw [List.getElem?_range hj, if_pos hj]; rfl
    · rw [if_neg hj, List.getElem?_eq_none (by simpa using hj)]; rfl
  have get' : ∀ j, j < σ.length → δ'[j]? = some (δ'[j]?.getD none) := fun j hj => by
    rw [List.getElem?_eq_getElem (by rw [hl]; exact hj)]; rfl
  have get1 : ∀ j, j < σ.length → δ[j]? = some (δ[j]?.getD none) := fun j hj => by
    rw [List.getElem?_eq_getElem (by rw [← L1.len]; exact hj)]; rfl
  have kp := L1.kp (U := U) (W := []) (H' := H') hU (fun _ z => by simp at z) (fun _ _ z => by simp at z) g
  refine ⟨L2'.trk, L2'.fr, L2'.tp, fun j hj => ?_, fun j hj => ?_, fun j k q hj hk e1 e2 => ?_, fun q hq => ?_, L2'.zT, L2'.zB⟩
  · rw [hr j]
    by_cases hjl : j < σ.length
    · rw [if_pos hjl]
      by_cases hv : j ∈ vs
      · rw [if_pos (by simpa using hv), ← get1 j hjl]
        have q := L1.imm j hj
        revert q
        cases σ[j]? with
        | none => cases δ[j]? with
          | none => exact id
          | some u => cases u <;> exact id
        | some o => cases δ[j]? with
          | none => cases o <;> exact id
          | some u => cases o with
            | none => cases u <;> exact id
            | some v => cases u with
              | none => exact id
              | some d =>
                intro (q : RpS K _ H v d)
                refine q.trk.mono (fun a z => ⟨z.1.1, ?_, z.1.2.2⟩) ⟨fun a o z => kp.at_ a o (.inr z.1), kp.tup⟩
                rintro (y | y)
                · exact z.1.2.1 y
                · obtain ⟨o, z2⟩ := z.2
                  rw [y, np] at z2; cases z2
      · rw [if_neg (by simpa using hv), ← get' j hjl]
        have q := L2'.imm j hj
        rw [wipe_out hv] at q
        exact q.mono hS
    · rw [if_neg hjl, List.getElem?_eq_none (by omega)]; trivial
  · rw [hr j]
    have hv : j ∉ vs := fun m => h j m hj
    by_cases hjl : j < σ.length
    · rw [if_pos hjl, if_neg (by simpa using hv), ← get' j hjl]
      have q := L2'.mu j hj
      rw [wipe_out hv] at q
      exact q.mono hS (fun _ h => h) fun _ h => h
    · rw [if_neg hjl, List.getElem?_eq_none (by omega)]; trivial
  · exact L2'.inj j k q hj hk (by rw [wipe_out (fun m => h j m hj)]; exact e1) (by rw [wipe_out (fun m => h k m hk)]; exact e2)
  · obtain ⟨h1, h2, h3⟩ := L2'.rfs q hq
    exact ⟨h1, by rw [← wipe_out (fun m => h q.1 m h1)]; exact h2, h3⟩
end
section
variable {K : PySem.W.Frag} {M : List Nat} {b : Bs} {σ : L2.St} {H : Hp} {δ : Env} {p : Addr} {vs : List V}
theorem Loc.kpZ (L : Loc K M b σ H δ) (hz : b.Z p) : Kp (Sb M b σ) H (upd H p (.lst vs)) := by
  obtain ⟨xs, hp⟩ := L.zT p hz
  refine ⟨fun q o h e => ?_, fun q ys h => ?_⟩
  · have : q ≠ p := fun z => h.2.1 (by rw [z]; exact hz)
    rw [upd_ne this]; exact e
  · have : q ≠ p := fun z => by
      subst z
      rcases h with h | ⟨o, h⟩ <;> (rw [hp] at h; cases h)
    rcases h with h | ⟨o, h⟩
    · exact .inl (by rw [upd_ne this]; exact h)
    · exact .inr ⟨o, by rw [upd_ne this]; exact h⟩
theorem Loc.putZ (L : Loc K M b σ H δ) (hz : b.Z p) : Loc K M b σ (upd H p (.lst vs)) δ := by
  have k : Kp (Sb M b σ) H (upd H p (.lst vs)) := L.kpZ hz
  refine ⟨fun q o h => ?_, fun q o h n => ?_, fun q ys h => k.tup q ys (L.tp q ys h), fun j hj => ?_, fun j hj => ?_, L.inj, L.rfs, fun q z => ?_, L.zB⟩
  · obtain ⟨o', h'⟩ := L.trk q o h
    by_cases hq : q = p
    · exact ⟨_, by rw [hq]; exact upd_same⟩
    · exact ⟨o', by rw [upd_ne hq]; exact h'⟩
  · have hq : q ≠ p := fun z => L.zB q o h (by rw [z]; exact hz)
    rw [upd_ne hq]
    exact L.fr q o h n
  · have q := L.imm j hj
    revert q
    cases σ[j]? with
    | none => cases δ[j]? with
      | none => exact id
      | some u => cases u <;> exact id
    | some o => cases δ[j]? with
      | none => cases o <;> exact id
      | some u => cases o with
        | none => cases u <;> exact id
        | some v => cases u with
          | none => exact id
          | some d => exact fun (q : RpS K _ H v d) => q.mono (fun _ h => h) k
  · have q := L.mu j hj
    revert q
    cases σ[j]? with
    | none => cases δ[j]? with
      | none => exact id
      | some u => cases u <;> exact id
    | some o => cases δ[j]? with
      | none => cases o <;> exact id
      | some u => cases o with
        | none => cases u <;> exact id
        | some v => cases u with
          | none => exact id
          | some d =>
            rintro ⟨a, ws, es, h1, h2, h3, h4, h5, h6⟩
            have na : a ≠ p := fun z => h6 (by rw [z]; exact hz)
            exact ⟨a, ws, es, h1, h2, by rw [upd_ne na]; exact h3, h4.mono (fun _ h => h) k, h5, h6⟩
  · obtain ⟨xs, h⟩ := L.zT q z
    by_cases hq : q = p
    · exact ⟨_, by rw [hq]; exact upd_same⟩
    · exact ⟨xs, by rw [upd_ne hq]; exact h⟩
end
def lcL (g : PyData → Env → Option Env) (t : Env → R Bool) (el : Ev) (vs : List Nat) : List PyData → Env → List PyData → R (List PyData)
  | [], δ, acc => .ok acc δ
  | d :: ds, δ, acc => match g d δ with
    | none => .bad
    | some δ1 => match t δ1 with
      | .ok true δ2 => match el δ2 with
        | .ok y δ3 => if acc.length < 16777216 then lcL g t el vs ds (wipeD δ3 vs) (acc ++ [y]) else .bad
        | _ => .bad
      | .ok false δ2 => lcL g t el vs ds (wipeD δ2 vs) acc
      | _ => .bad
def eLc (vs : List Nat) (g : PyData → Env → Option Env) (it : Env → R (List PyData)) (t : Env → R Bool) (el : Ev) : Ev := fun δ => match it δ with
  | .ok ds δ1 => match lcL g t el vs ds (wipeD δ1 vs) [] with
    | .ok acc δ2 => .ok (.list acc) (rest vs δ1 δ2)
    | _ => .bad
  | .exc k f x e => .exc k f x e
  | .bad => .bad
abbrev wx0 : WXs := fun _ _ _ _ => False
/-- the tests of a clause -/
def PTsD (X : Cx) (wx : WXs) (M U : List Nat) (es : List Expr) (ev : Env → R Bool) : Prop := PTs X es (tDT X.K X.mg wx M U ev)
theorem pts_imp {X : Cx} {e : List Expr} {t t' : TT} (h : PTs X e t) (im : ∀ σ H Q, t' σ H Q → t σ H Q) : PTs X e t' := ⟨fun pins s σ H Q I q => h.run pins s σ H Q I (im _ _ _ q)⟩
def tYs : Env → R Bool := fun δ => .ok true δ
theorem ptsd_nil {X : Cx} {wx : WXs} {M : List Nat} : PTsD X wx M [] [] tYs := pts_imp pts_nil fun σ H Q ⟨δ, b, L, f⟩ => f H L (Gr.refl _ _ _)
theorem ptsd_one {X : Cx} {wx : WXs} {M U : List Nat} {c : Expr} {t : Env → R Bool} (h : PTD X wx M U c t) : PTsD X wx M U [c] t := pts_one h
theorem Gr.unwipe {U vs : List Nat} {σ : L2.St} {H H' : Hp} (h : ∀ j ∈ vs, j ∉ U) (g : Gr U (wipe σ vs) H H') : Gr U σ H H' := fun p o e n => g p o e fun c => n ((Cl_wipe h).mp c)
section
variable {X : Cx} {wx : WXs} {rs M Mt W U U1 U2 sl : List Nat}
theorem lc_sem {K : PySem.W.Frag} {mg : Str → Option Value} {own : List (Str × Nat)} {g : PyData → Env → Option Env} {ei : Env → R (List PyData)} {et : Env → R Bool} {el : Ev} {σ : L2.St} {H : Hp} {Q : VK}
    (h1 : (own.all fun p => !M.contains p.2) = true) (h2 : (sl.all fun i => (own.map (·.2)).contains i) = true) (h4 : sb U1 M = true) (h5 : sb U2 M = true)
    (h6 : dj U1 W = true) (h7 : dj U2 W = true) (h8 : sb W M = true) (h3 : sb U M = true) (h : tDF K mg wx M (U ++ (U1 ++ U2)) (eLc (own.map (·.2)) g ei et el) σ H Q) :
    tLc (tDI K mg wx M W [] U ei) (tG K M M M sl g) (tDT K mg wx0 M U1 et) (tD K mg wx0 M [] U2 el) (own.map (·.2)) σ H Q := by
  obtain ⟨δ, b, L, f⟩ := h
  refine ⟨δ, b, L, ?_⟩
  unfold eLc at f
  cases e1 : ei δ with
  | bad => rw [e1] at f; exact f
  | exc k g x e' => rw [e1] at f; exact fun cls dd H' L' g' ex => f cls dd H' L' (g'.mono inl_app) ex
  | ok ds δ1 =>
    rw [e1] at f
    intro J H1 L1 g1 io D nD
    generalize hvs : own.map (·.2) = vs at f h2
    have nv : ∀ j ∈ vs, j ∉ M := fun j hj => by
      rw [← hvs] at hj
      obtain ⟨p, hp, rfl⟩ := List.mem_map.mp hj
      have := List.all_eq_true.mp h1 p hp
      simpa using this
    have sU : ∀ i ∈ U1 ++ U2, i ∈ M := fun i hi => (List.mem_append.mp hi).elim (sb_of h4 i) (sb_of h5 i)
    have dU : ∀ i ∈ U1 ++ U2, i ∉ W := fun i hi => (List.mem_append.mp hi).elim (dj_of h6 i) (dj_of h7 i)
    have nvU : ∀ j ∈ vs, j ∉ U1 ++ U2 := fun j hj hu => nv j hj (sU j hu)
    dsimp only at f
    cases e2 : lcL g et el vs ds (wipeD δ1 vs) [] with
    | bad => rw [e2] at f; exact f.elim
    | exc k h x e' => rw [e2] at f; exact f.elim
    | ok accF δF =>
      rw [e2] at f
      have f : FinF K mg wx M (U ++ (U1 ++ U2)) b σ H (.ok (.list accF) (rest vs δ1 δF)) Q := f
      have W0 : Walk J ds.length (fun H' => Kp (SW M W b σ) H1 H') (fun i H2 x H' => Ext H2 H' ∧ ∃ d, ds[i]? = some d ∧ Rp K (fun p => (SW M [] b σ p ∧ ∃ o, H1 p = some o) ∨ H2 p = none) H' x d) :=
        ⟨fun i H' hi k => io.go i H' k hi, fun H' k => io.stop H' k, fun i H2 x H' hi k y => io.yld i H2 x H' k hi y⟩
      have Lw := (L1.fresh (vs := []) nD).wipe nv
      refine lc_it W0 (fun i H' => ∃ δ' acc ws, Loc K M (bz b D) (wipe σ vs) H' δ' ∧ H' D = some (.lst ws) ∧ RpA K (Sb M (bz b D) (wipe σ vs)) H' ws acc ∧ Gr (U1 ++ U2) σ H1 H' ∧ lcL g et el vs (ds.drop i) δ' acc = .ok accF δF)
        ⟨wipeD δ1 vs, [], [], Lw, upd_same, .nil, Gr.ext (Ext.upd nD), e2⟩ (fun i H' _ ⟨δ', acc, ws, La, hD, rA, gr, e⟩ => L1.kp sU (sb_of h8) dU gr) ?_ ?_
      · rintro i x H2 H3 hi ⟨δ2, acc, ws, La, hD, rA, gr, e⟩ ⟨ex, d, hd, r⟩
        have hdr : ds.drop i = d :: ds.drop (i + 1) := by
          have hi' : i < ds.length := hi
          rw [List.drop_eq_getElem_cons hi']
          rw [List.getElem?_eq_getElem hi'] at hd
          rw [Option.some.inj hd]
        rw [hdr, lcL] at e
        have La3 := La.ext ex
        have rS : Rp K (Sb M (bz b D) (wipe σ vs)) H3 x d := by
          refine r.mono (fun p h => ?_) (Ext.refl H3).kp
          rcases h with ⟨q, o, hp1⟩ | q
          · have q := q.nil
            refine (Sb_wipe nv).mpr ⟨q.1, ?_, q.2.2⟩
            rintro (z | z)
            · exact q.2.1 z
            · rw [z, nD] at hp1; cases hp1
          · exact La.nw (fun _ h => h) q
        refine ⟨δ2, bz b D, d, fun q hq => (La.rfs q hq).1, La3, rS, ?_⟩
        cases e3 : g d δ2 with
        | none => rw [e3] at e; cases e
        | some δ3 =>
          rw [e3] at e
          dsimp only at e
          intro σ4 L4 k1 k2 k3
          have ew : wipe σ4 vs = wipe σ vs := by
            have := wipe_eq (σ := wipe σ vs) (σ' := σ4) (vs := vs) k2 fun j hj => k1 j fun m => hj (by
              have := List.all_eq_true.mp h2 j m
              simpa using this)
            rw [this]
            exact wipe_eq (wipe_length _ _) fun j hj => wipe_out hj
          refine ⟨ew, δ3, bz b D, L4, ?_⟩
          have clE : ∀ {p}, Cl (U1 ++ U2) σ4 p ↔ Cl (U1 ++ U2) σ p := fun {p} => by
            rw [← Cl_wipe (σ := σ4) nvU, ew, Cl_wipe nvU]
          have sbE : ∀ {p}, Sb M (bz b D) σ4 p ↔ Sb M (bz b D) (wipe σ vs) p := fun {p} => by
            rw [← Sb_wipe (σ := σ4) nv, ew]
          have gU : ∀ {U' : List Nat} {A B : Hp}, (∀ i ∈ U', i ∈ U1 ++ U2) → Gr U' σ4 A B → Gr (U1 ++ U2) σ A B := fun {U' A B} hs g p o h n => g p o h fun c => n (clE.mp (c.sub hs))
          have kpD : ∀ {U' : List Nat} {A B : Hp} {δ' : Env}, Loc K M (bz b D) σ4 A δ' → (∀ i ∈ U', i ∈ U1 ++ U2) → Gr U' σ4 A B → A D = some (.lst ws) → B D = some (.lst ws) := fun {U' A B δ'} LA hs g h => by
            refine g D _ h fun c => ?_
            obtain ⟨i', hi', ei'⟩ := c
            have m := LA.mu i' (sU i' (hs i' hi'))
            rw [ei'] at m
            revert m
            cases δ'[i']? with
            | none => exact fun m => m.elim
            | some u => cases u with
              | none => exact fun m => m.elim
              | some du =>
                rintro ⟨a, ws', es, h1, _, _, _, _, h6⟩
                cases h1
                exact h6 (.inr rfl)
          have hD3 : H3 D = some (.lst ws) := ex _ _ hD
          have rA3 : RpA K (Sb M (bz b D) σ4) H3 ws acc := rA.ext (fun p h => sbE.mpr h) ex
          have gr3 : Gr (U1 ++ U2) σ H1 H3 := gr.trans (Gr.ext (U := []) ex) (fun _ h => h) (fun _ h => by simp at h)
          cases e4 : et δ3 with
          | bad => rw [e4] at e; cases e
          | exc => rw [e4] at e; cases e
          | ok k δ4 =>
            rw [e4] at e
            intro H5 L5 g5
            have hD5 := kpD L4 inl_app g5 hD3
            have rA5 : RpA K (Sb M (bz b D) σ4) H5 ws acc := (rA3.mono (fun _ h => .inr h) (Ext.refl _).kp |>.keep (W1 := []) L4 g5 h4 rfl (by simp [dj])).mono (fun _ h => h.nil) (Ext.refl _).kp
            have gr5 : Gr (U1 ++ U2) σ H1 H5 := gr3.trans (gU inl_app g5) (fun _ h => h) (fun _ h => h)
            cases k with
            | false =>
              simp only [Bool.false_eq_true, if_false]
              refine ⟨wipeD δ4 vs, acc, ws, by rw [← ew]; exact L5.wipe nv, hD5, rA5.mono (fun _ h => sbE.mp h) (Ext.refl _).kp, gr5, e⟩
            | true =>
              simp only [if_true]
              refine ⟨δ4, bz b D, L5, ?_⟩
              dsimp only at e
              cases e5 : el δ4 with
              | bad => rw [e5] at e; cases e
              | exc => rw [e5] at e; cases e
              | ok y δ5 =>
                rw [e5] at e
                dsimp only at e
                split at e
                · rename_i hlen
                  intro v H6 p6
                  have hD6 := kpD L5 inr_app p6.gr hD5
                  have rA6 : RpA K (Sb M (bz b D) σ4) H6 ws acc := (rA5.mono (fun _ h => .inr h) (Ext.refl _).kp |>.keep (W1 := []) L5 p6.gr h5 rfl (by simp [dj])).mono (fun _ h => h.nil) (Ext.refl _).kp
                  have gr6 : Gr (U1 ++ U2) σ H1 H6 := gr5.trans (gU inr_app p6.gr) (fun _ h => h) (fun _ h => h)
                  have rY : Rp K (Sb M (bz b D) σ4) H6 v y := p6.rp.mono (fun _ h => h.nil) (Ext.refl _).kp
                  refine ⟨ws, hD6, by rw [rA6.length, sizeLine_eq]; exact hlen, ?_⟩
                  have hz : (bz b D).Z D := .inr rfl
                  have LZ := (p6.loc.putZ (vs := ws ++ [v]) hz).wipe nv
                  have kZ : Kp (Sb M (bz b D) σ4) H6 (upd H6 D (.lst (ws ++ [v]))) := p6.loc.kpZ hz
                  refine ⟨wipeD δ5 vs, acc ++ [y], ws ++ [v], by rw [← ew]; exact LZ, upd_same, ((rA6.app (.one rY)).mono (fun _ h => h) kZ).mono (fun _ h => sbE.mp h) (Ext.refl _).kp, fun p o h n => ?_, e⟩
                  have np : p ≠ D := ne_of_none h nD
                  rw [upd_ne np]
                  exact gr6 p o h n
                · cases e
      · rintro H2 ⟨δ2, acc, ws, La, hD, rA, gr, e⟩
        rw [List.drop_length, lcL] at e
        cases e
        exact f _ H2 ⟨⟨D, ws, accF, rfl, rfl, g1.none L1 (sb_of h3) nD, hD, L1.unwipe nD La gr sU nv, rA.mono (fun _ h => (Sb_wipe nv).mp h) (Ext.refl _).kp⟩, g1.trans gr inl_app inr_app⟩
theorem pfd_lc {elt tg iter : Expr} {ifs : List Expr} {scope : Scope} (own : List (Str × Nat)) {pos : Pos} {g : PyData → Env → Option Env} {ei : Env → R (List PyData)} {et : Env → R Bool} {el : Ev} (hc : X.calm = true) (hN : X.N.Nodup)
    (hi : PID X wx M W [] U tg iter ei) (ok : blkC X.N X.env.scope scope own = true)
    (hg : ∀ (s : Shared) (H : Hp) (C : Addr) (cl : List (Str × Addr)) (fp : List Addr), PGD (X.blk s H scope (compEnvC scope cl C X.env) fp) M M M sl tg g)
    (ht : ∀ (s : Shared) (H : Hp) (C : Addr) (cl : List (Str × Addr)) (fp : List Addr), PTsD (X.blk s H scope (compEnvC scope cl C X.env) fp) wx0 M U1 ifs et)
    (he : ∀ (s : Shared) (H : Hp) (C : Addr) (cl : List (Str × Addr)) (fp : List Addr), PD (X.blk s H scope (compEnvC scope cl C X.env) fp) wx0 M [] U2 elt el)
    (h1 : (own.all fun p => !M.contains p.2) = true := by rfl) (h2 : (sl.all fun i => (own.map (·.2)).contains i) = true := by rfl) (h4 : sb U1 M = true := by rfl) (h5 : sb U2 M = true := by rfl)
    (h6 : dj U1 W = true := by rfl) (h7 : dj U2 W = true := by rfl) (h8 : sb W M = true := by rfl) (h3 : sb U M = true := by rfl)
    (hs : ∀ x, foldedSetIterable iter X.env x = pure x := by intro _; rfl) : PFD X wx M (U ++ (U1 ++ U2)) (.ListComp elt [⟨tg, iter, ifs, 0⟩] scope pos) (eLc (own.map (·.2)) g ei et el) :=
  pe_imp (pe_lc (g := tG X.K M M M sl g) (tt := tDT X.K X.mg wx0 M U1 et) (te := tD X.K X.mg wx0 M [] U2 el) hc hN hi (blkOk_by ok) hg ht he hs) fun σ H Q h => lc_sem h1 h2 h4 h5 h6 h7 h8 h3 h
/-- name = [..] on one line -/
theorem psd_asgLc {c : Sx} (i : Nat) {y : Str} {py : Pos} {elt tg iter : Expr} {ifs : List Expr} {scope : Scope} (own : List (Str × Nat)) {pos spos : Pos} {g : PyData → Env → Option Env} {ei : Env → R (List PyData)} {et : Env → R Bool} {el : Ev} (hc : X.calm = true) (hN : X.N.Nodup)
    (hi : PID X c.wx M W [] U tg iter ei) (ok : blkC X.N X.env.scope scope own = true)
    (hg : ∀ (s : Shared) (H : Hp) (C : Addr) (cl : List (Str × Addr)) (fp : List Addr), PGD (X.blk s H scope (compEnvC scope cl C X.env) fp) M M M sl tg g)
    (ht : ∀ (s : Shared) (H : Hp) (C : Addr) (cl : List (Str × Addr)) (fp : List Addr), PTsD (X.blk s H scope (compEnvC scope cl C X.env) fp) wx0 M U1 ifs et)
    (he : ∀ (s : Shared) (H : Hp) (C : Addr) (cl : List (Str × Addr)) (fp : List Addr), PD (X.blk s H scope (compEnvC scope cl C X.env) fp) wx0 M [] U2 elt el)
    (hr : c.rs.contains i = false := by rfl) (hm : okM c M = true := by rfl)
    (h1 : (own.all fun p => !M.contains p.2) = true := by rfl) (h2 : (sl.all fun i => (own.map (·.2)).contains i) = true := by rfl) (h4 : sb U1 M = true := by rfl) (h5 : sb U2 M = true := by rfl)
    (h6 : dj U1 W = true := by rfl) (h7 : dj U2 W = true := by rfl) (h8 : sb W M = true := by rfl) (h3 : sb U M = true := by rfl) (hy : X.N[i]? = some y := by rfl) (hyl : X.env.scope.names.lookup y = some .local := by rfl)
    (hsw : swapsWith (.ListComp elt [⟨tg, iter, ifs, 0⟩] scope pos) (some (.Name y py)) spos.line X.env = pure true := by rfl)
    (hs : ∀ x, foldedSetIterable iter X.env x = pure x := by intro _; rfl) : PSD X c M (ins i M) (.Assign [.Name y py] (.ListComp elt [⟨tg, iter, ifs, 0⟩] scope pos) spos) (sAsg i (eLc (own.map (·.2)) g ei et el)) :=
  ps_imp (ps_setLc (g := tG X.K M M M sl g) (tt := tDT X.K X.mg wx0 M U1 et) (te := tD X.K X.mg wx0 M [] U2 el) hc hN hy hyl hsw hi (blkOk_by ok) hg ht he hs) fun D σ H h => lc_sem h1 h2 h4 h5 h6 h7 h8 h3 (asgF_sem hr hm h)
end
end BD
namespace BD
open PySem PySem.Spec L2
/-! ### what a def promises -/
inductive FR where
  | ok (d : PyData) (out : List PyData)
  | exc (c f : Str) (x : PyData) (out : List PyData)
  | bad
def Nw (S : Addr → Prop) (H : Hp) : Addr → Prop := fun q => S q ∨ H q = none
def FrN (K : PySem.W.Frag) (S : Addr → Prop) (H H' : Hp) (v : V) (d : PyData) : Prop :=
  ∃ p ws es, v = .ref p ∧ d = .list es ∧ H p = none ∧ H' p = some (.lst ws) ∧ RpA K (fun q => Nw S H q ∧ q ≠ p) H' ws es
/-- of plain arguments -/
def SpP (K : PySem.W.Frag) (mg : Str → Option Value) (n : Nat) (fr : Bool) (f : List PyData → FR) : Sp := fun vs H Q E => vs.length = n ∧ ∃ ds S, RpA K S H vs ds ∧
  match f ds with
  | .ok d _ => ∀ v H', Ext H H' → Rp K (Nw S H) H' v d → (fr = true → FrN K S H H' v d) → Q v H'
  | .exc c g x _ => ∀ cls dd H', Ext H H' → ExcR K mg (fun p => H p = none) c g x cls dd H' → E cls dd H'
  | .bad => False
/-- the first argument a list that it may change -/
def SpB (K : PySem.W.Frag) (mg : Str → Option Value) (n : Nat) (fr : Bool) (f : List PyData → List PyData → FR) : Sp := fun vs H Q E => vs.length = n ∧ ∃ p rest ws bc ds S, vs = .ref p :: rest ∧ H p = some (.lst ws) ∧ RpA K S H ws bc ∧ RpA K S H rest ds ∧ ¬ S p ∧
  match f bc ds with
  | .ok d out => ∀ v H' ws', (∀ q o, H q = some o → q ≠ p → H' q = some o) → H' p = some (.lst ws') → RpA K (Nw S H) H' ws' out → Rp K (Nw S H) H' v d → (fr = true → FrN K S H H' v d) → Q v H'
  | .exc c g x out => ∀ cls dd H' ws', (∀ q o, H q = some o → q ≠ p → H' q = some o) → H' p = some (.lst ws') → RpA K (Nw S H) H' ws' out → ExcR K mg (fun p => H p = none) c g x cls dd H' → E cls dd H'
  | .bad => False
def env0 (n : Nat) (ds : List PyData) : Env := ds.map some ++ List.replicate (n - ds.length) none
def runP (n : Nat) (sv : Sv) : List PyData → FR := fun ds => match sv (env0 n ds) with
  | .nx _ => .ok .none []
  | .rt d _ => .ok d []
  | .exc c f x _ => .exc c f x []
  | .bad => .bad
def box (δ : Env) : Option (List PyData) := match δ[0]? with
  | some (some (PyData.list bc)) => some bc
  | _ => none
def runB (n : Nat) (sv : Sv) : List PyData → List PyData → FR := fun bc ds => match sv (env0 n (.list bc :: ds)) with
  | .nx δ => match box δ with
    | some o => .ok .none o
    | none => .bad
  | .rt d δ => match box δ with
    | some o => .ok d o
    | none => .bad
  | .exc c f x δ => match box δ with
    | some o => .exc c f x o
    | none => .bad
  | .bad => .bad
theorem start_get (N : List Str) (vs : List V) (i : Nat) : (L2.start N vs)[i]? = if i < vs.length then some vs[i]? else if i < vs.length + (N.length - vs.length) then some none else none := by
  unfold L2.start
  by_cases h : i < vs.length
  · rw [if_pos h, List.getElem?_append_left (by simpa using h), List.getElem?_map, List.getElem?_eq_getElem h]; rfl
  · rw [if_neg h, List.getElem?_append_right (by simpa using h), List.getElem?_replicate, List.length_map]
    by_cases h2 : i < vs.length + (N.length - vs.length)
    · rw [if_pos h2, if_pos (by omega)]
    · rw [if_neg h2, if_neg (by omega)]
theorem env0_get (n : Nat) (ds : List PyData) (i : Nat) : (env0 n ds)[i]? = if i < ds.length then some ds[i]? else if i < ds.length + (n - ds.length) then some none else none := by
  unfold env0
  by_cases h : i < ds.length
  · rw [if_pos h, List.getElem?_append_left (by simpa using h), List.getElem?_map, List.getElem?_eq_getElem h]; rfl
  · rw [if_neg h, List.getElem?_append_right (by simpa using h), List.getElem?_replicate, List.length_map]
    by_cases h2 : i < ds.length + (n - ds.length)
    · rw [if_pos h2, if_pos (by omega)]
    · rw [if_neg h2, if_neg (by omega)]
section
variable {P : Program} {w : World} {K : PySem.W.Frag} {mg : Str → Option Value} {base : Heap}
def cP (E : XK) (fr : Bool) : Sx := ⟨fun cls d _ H => E cls d H, fr, [], none, []⟩
def cB (E : XK) (fr : Bool) : Sx := ⟨fun cls d _ H => E cls d H, fr, [0], none, [0]⟩
theorem retN {K : PySem.W.Frag} {b : Bs} {fr : Bool} {v : V} {H : Hp} {d : PyData} {δ' : Env} {S : Addr → Prop} (r : RetOk K b fr v H d δ') (hS : ∀ q, (∀ o, b.B q = some o → b.S0 q) → Nw S b.B q) (hW : ∀ Mr σ' W p, Loc K Mr b σ' H δ' → sb W Mr = true → (∀ q ∈ b.rf, q.1 ∉ W) → Cl W σ' p → b.B p = none) :
    Rp K (Nw S b.B) H v d ∧ (fr = true → FrN K S b.B H v d) := by
  obtain ⟨Mr, W, σ', L', h1, h2, h3, h4⟩ := r
  have hs : ∀ q, SW Mr W b σ' q → Nw S b.B q := fun q h => by
    rcases h with h | h
    · exact .inr (hW Mr σ' W q L' h1 h2 h)
    · exact hS q h.2.2
  refine ⟨h3.mono hs (Ext.refl _).kp, fun e => ?_⟩
  obtain ⟨p, vs, ds, q1, q2, q3, q4, q5⟩ := h4 e
  refine ⟨p, vs, ds, q1, q2, ?_, q3, q4.mono (fun q h => ⟨hs q h.1, h.2⟩) (Ext.refl _).kp⟩
  rcases q5 with q5 | q5
  · exact q5
  · exact hW Mr σ' W p L' h1 h2 q5
/-- a cell of the block that is no reference parameter is new -/
theorem cellNew {b : Bs} {Mr : List Nat} {σ' : L2.St} {H : Hp} {δ' : Env} {i : Nat} {p : Addr} (L : Loc K Mr b σ' H δ') (hi : i ∈ Mr) (e : σ'[i]? = some (some (.ref p))) (hn : ¬ b.Rm i p) : b.B p = none := by
  cases q : b.B p with
  | none => rfl
  | some o =>
    have m := L.mu i hi
    rw [e] at m
    revert m
    cases δ'[i]? with
    | none => exact fun m => m.elim
    | some u => cases u with
      | none => exact fun m => m.elim
      | some du =>
        rintro ⟨a, ws, es, h1, _, _, _, h5, _⟩
        cases h1
        exact absurd (h5 o q) hn
/-- room, and no repr under way -/
structure RoomG (k : Nat) (A : Around) : Prop where
  rm : Room k A
  gd : A.guards = some []
theorem RoomG.mono {j k : Nat} {A : Around} (r : RoomG k A) (h : j ≤ k) : RoomG j A := ⟨r.rm.mono h, r.gd⟩
theorem RoomG.down {k : Nat} {A : Around} (r : RoomG (k + 1) A) (e : PySem.Env) : RoomG k (A.deeper e) := ⟨r.rm.deeper e, by
  have h : (A.deeper e).guards = A.guards := rfl
  rw [h]; exact r.gd⟩
/-- what a def keeps, where no repr is under way -/
structure FnG (P : Program) (w : World) (K : PySem.W.Frag) (mg : Str → Option Value) (base : Heap) (k : Nat) (f : Addr) (fd : FuncData) (ps : List Str) (sp : Sp) : Prop where
  len : ∀ vs H Q E, sp vs H Q E → vs.length = ps.length
  go : ∀ (A : Around) (outer : List PySem.Env) (s : Shared) (H : Hp) (ar : Args) (us : List Value) (vs : List V) (Q : VK) (E : XK), RoomG k A → Env0 P w K mg base A outer s H → BindsTo s fd ar (ps.zip us) → Vals vs us → sp vs H Q E →
    codeAny (model P w) A (.call (.ref f) ar) (CR (L2.CX P w) outer P w H s Q E) s
theorem FnG.mono {j k : Nat} {f : Addr} {fd : FuncData} {ps : List Str} {sp : Sp} (F : FnG P w K mg base j f fd ps sp) (h : j ≤ k) : FnG P w K mg base k f fd ps sp :=
  ⟨F.len, fun A outer s H ar us vs Q E hr => F.go A outer s H ar us vs Q E (hr.mono h)⟩
theorem FnG.imp {k : Nat} {f : Addr} {fd : FuncData} {ps : List Str} {sp sp' : Sp} (F : FnG P w K mg base k f fd ps sp) (h : ∀ vs H Q E, sp' vs H Q E → sp vs H Q E) : FnG P w K mg base k f fd ps sp' :=
  ⟨fun vs H Q E q => F.len vs H Q E (h _ _ _ _ q), fun A outer s H ar us vs Q E hr e0 hb hv q => F.go A outer s H ar us vs Q E hr e0 hb hv (h _ _ _ _ q)⟩
theorem okG {x qual : Str} {st : Stmt} {f : Addr} {fd : FuncData} {N ps : List Str} {k : Nat} {sp : Sp} (F : Fun K x qual st f fd) (S : FnScope N ps (defScope st)) (len : ∀ vs H Q E, sp vs H Q E → vs.length = ps.length)
    (body : ∀ (cd : Value) (A : Around) (outer : List PySem.Env) (s : Shared) (H : Hp) (vs : List V) (Q : VK) (E : XK), RoomG k (A.deeper (PyProof.Rows.envOfC qual (defScope st) s.heap.objs.size f cd)) → sp vs H Q E →
      ∃ t, PSs (cxOf (L2.CX P w) P w K mg base N qual (defScope st) f cd A outer s H E) (defBody st) t ∧ t { nx := fun _ H' => Q .non H', rt := Q } (L2.start N vs) H) : FnG P w K mg base (k + 1) f fd ps sp := by
  obtain ⟨oc, od, kV, doc, pm, an, cd, ct, osl, rfl, lk, hcd⟩ := F.ex
  refine ⟨len, fun A outer s H ar us vs Q E room env binds vals want => ?_⟩
  have inK : K.In s.heap := env.mod.kin.keeps fun p o z => (env.bs p o z).1
  have noLim : s.heap.NoLimit := env.mod.nolimit.keeps fun p o z => (env.bs p o z).1
  have kinds : ∀ y ∈ ps.zip us, (defScope st).names.lookup y.1 = some .local ∨ ((defScope st).names.lookup y.1 = some .cell ∧ ((PySem.cellsFrom (s.heap.objs.size + 1) (defScope st).names []).lookup y.1).isSome = true) := by
    rintro ⟨n, v⟩ mem
    cases S.par n (List.of_mem_zip mem).1 with
    | inl loc => exact .inl loc
    | inr cel => exact .inr ⟨cel, PySem.W.cellsFrom_some _ _ _ (.inl cel)⟩
  refine codeAny_call_function room.rm.depth (inK _ _ lk) rfl S.co S.gen rfl (PySem.W.codeRec_of inK hcd) (binds _ _ _ _ ?_)
  refine wpAny_newFunctionEnv_cells S.kind kinds fun env' ee s1 inc => ?_
  subst ee
  refine ⟨noLim.keeps inc.toInCall.keep, codeAny_func ?_⟩
  obtain ⟨t, run, goal⟩ := body cd A outer s H vs Q E (room.down _) want
  have inv : Inv (cxOf (L2.CX P w) P w K mg base N qual (defScope st) f cd A outer s H E) [] (L2.start N vs) H s1 := inv_start S room.rm.hd env (len _ _ _ _ want) vals inc
  refine wpAny_mono (run.run [] s1 (L2.start N vs) H _ inv goal) (fun fl s' got => ?_) fun e s' got => got
  cases fl with
  | ret u =>
    obtain ⟨v, σ', H', J, rv, q⟩ := got
    exact ⟨v, H', J.os, J.bare, J.base, J.hok, rv, q⟩
  | next =>
    obtain ⟨σ', H', J, q⟩ := got
    exact ⟨V.non, H', J.os, J.bare, J.base, J.hok, rfl, q⟩
  | brk => exact (got.elim fun _ z => z.elim fun _ z => z.2).elim
  | cont => exact (got.elim fun _ z => z.elim fun _ z => z.2).elim
theorem def_P {x qual : Str} {st : Stmt} {f : Addr} {fd : FuncData} {N ps : List Str} {k : Nat} {fr : Bool} {sv : Sv} {M1 : List Nat} (F : Fun K x qual st f fd) (S : FnScope N ps (defScope st)) (hfr : fr = false ∨ ∀ δ δ', sv δ ≠ .nx δ')
    (hb : ∀ (cdv : Value) (A : Around) (outer : List PySem.Env) (s : Shared) (H : Hp) (E : XK), RoomG k (A.deeper (PyProof.Rows.envOfC qual (defScope st) s.heap.objs.size f cdv)) →
      PSsD (cxOf (L2.CX P w) P w K mg base N qual (defScope st) f cdv A outer s H E) (cP E fr) [] M1 (defBody st) sv) : FnG P w K mg base (k + 1) f fd ps (SpP K mg ps.length fr (runP N.length sv)) := by
  refine okG F S (fun vs H Q E h => h.1) (fun cdv A outer s H vs Q E hr h => ⟨_, hb cdv A outer s H E hr, ?_⟩)
  obtain ⟨hl, ds, S0, r, q⟩ := h
  have hl2 : ds.length = vs.length := r.length.symm
  have nC : ∀ σ p, ¬ Cl [] σ p := fun σ p ⟨i, hi, _⟩ => by simp at hi
  have L0 : Loc K [] ⟨H, fun _ _ => False, S0, fun _ => False, []⟩ (L2.start N vs) H (env0 N.length ds) := by
    refine ⟨fun p o h => ⟨o, h⟩, fun p o h _ => h, fun p xs h => h, fun j _ => ?_, fun j hj => by simp at hj, fun i j p hi => by simp at hi, fun q hq => by simp at hq, fun p z => z.elim, fun p o _ z => z⟩
    rw [start_get, env0_get, hl2]
    by_cases hj : j < vs.length
    · rw [if_pos hj, if_pos hj]
      obtain ⟨d, h1, h2⟩ := r.get (List.getElem?_eq_getElem hj)
      rw [List.getElem?_eq_getElem hj, h1]
      show RpS K (Sb [] ⟨H, fun _ _ => False, S0, fun _ => False, []⟩ (L2.start N vs)) H vs[j] d
      refine .inl <| h2.mono (fun p s => ⟨nC _ _, id, fun _ _ => s⟩) (Ext.refl H).kp
    · rw [if_neg hj, if_neg hj]
      split <;> trivial
  refine ⟨env0 N.length ds, ⟨H, fun _ _ => False, S0, fun _ => False, []⟩, ⟨fun p z => z, fun q hq => by simp at hq, fun i p (z : False) => z.elim⟩, L0, ?_⟩
  have hx : ∀ {Mr σ' H' δ'}, Loc K Mr ⟨H, fun _ _ => False, S0, fun _ => False, []⟩ σ' H' δ' → Ext H H' := fun {Mr σ' H' δ'} L' p o h => L'.fr p o h fun _ z => z
  have hS : ∀ q, (∀ o, H q = some o → S0 q) → Nw S0 H q := fun q h => by
    cases e : H q with
    | none => exact .inr e
    | some o => exact .inl (h o e)
  unfold runP at q
  cases e : sv (env0 N.length ds) with
  | bad => rw [e] at q; exact q
  | nx δ' =>
    rw [e] at q
    intro σ' H' L'
    refine q .non H' (hx L') .non fun z => ?_
    rcases hfr with z' | z'
    · rw [z'] at z; cases z
    · exact absurd e (z' _ _)
  | rt d δ' =>
    rw [e] at q
    intro v H' r'
    obtain ⟨a1, a2⟩ := retN r' hS (fun Mr σ' W p L' h1 _ ⟨i, hi, ei⟩ => cellNew L' (sb_of h1 i hi) ei fun z => z)
    obtain ⟨Mr, W, σ', L', _⟩ := r'
    exact q v H' (hx L') a1 a2
  | exc c g y δ' =>
    rw [e] at q
    intro cls dd σ' H' Mr _ L' ex
    refine q cls dd H' (hx L') ?_
    exact ex
theorem def_B {x qual : Str} {st : Stmt} {f : Addr} {fd : FuncData} {N ps : List Str} {k : Nat} {fr : Bool} {sv : Sv} {M1 : List Nat} (F : Fun K x qual st f fd) (S : FnScope N ps (defScope st)) (hfr : fr = false ∨ ∀ δ δ', sv δ ≠ .nx δ')
    (hb : ∀ (cdv : Value) (A : Around) (outer : List PySem.Env) (s : Shared) (H : Hp) (E : XK), RoomG k (A.deeper (PyProof.Rows.envOfC qual (defScope st) s.heap.objs.size f cdv)) →
      PSsD (cxOf (L2.CX P w) P w K mg base N qual (defScope st) f cdv A outer s H E) (cB E fr) [0] M1 (defBody st) sv) : FnG P w K mg base (k + 1) f fd ps (SpB K mg ps.length fr (runB N.length sv)) := by
  refine okG F S (fun vs H Q E h => h.1) (fun cdv A outer s H vs Q E hr h => ⟨_, hb cdv A outer s H E hr, ?_⟩)
  obtain ⟨hl, p, rest, ws, bc, ds, S0, rfl, hp, rB, r, nS, q⟩ := h
  have hl2 : ds.length = rest.length := r.length.symm
  have hC : ∀ a, S0 a → ¬ Cl [0] (L2.start N (.ref p :: rest)) a := fun a sa ⟨i, hi, e⟩ => by
    simp at hi
    subst hi
    rw [start_get, if_pos (by simp)] at e
    simp at e
    rw [e] at nS
    exact nS sa
  generalize hbb : (⟨H, fun i a => i = 0 ∧ a = p, S0, fun _ => False, [(0, p)]⟩ : Bs) = bb
  have L0 : Loc K [0] bb (L2.start N (.ref p :: rest)) H (env0 N.length (.list bc :: ds)) := by
    subst hbb
    have hs : ∀ a, S0 a → Sb [0] ⟨H, fun i a => i = 0 ∧ a = p, S0, fun _ => False, [(0, p)]⟩ (L2.start N (.ref p :: rest)) a := fun a s => ⟨hC a s, id, fun _ _ => s⟩
    refine ⟨fun p o h => ⟨o, h⟩, fun p o h _ => h, fun p xs h => h, fun j hj => ?_, fun j hj => ?_, fun i j a hi hj _ _ => ?_, fun q hq => ?_, fun p z => z.elim, fun p o _ z => z⟩
    · have hj0 : j ≠ 0 := by simpa using hj
      obtain ⟨j, rfl⟩ : ∃ k, j = k + 1 := ⟨j - 1, by omega⟩
      rw [start_get, env0_get, List.length_cons, List.length_cons, hl2]
      by_cases hj : j + 1 < rest.length + 1
      · rw [if_pos hj, if_pos hj]
        have hj' : j < rest.length := by omega
        obtain ⟨d, h1, h2⟩ := r.get (List.getElem?_eq_getElem hj')
        rw [List.getElem?_cons_succ, List.getElem?_cons_succ, List.getElem?_eq_getElem hj', h1]
        exact .inl (h2.mono hs (Ext.refl H).kp)
      · rw [if_neg hj, if_neg hj]
        split <;> trivial
    · have hj0 : j = 0 := by simpa using hj
      subst hj0
      rw [start_get, env0_get, if_pos (by simp), if_pos (by simp)]
      exact ⟨p, ws, bc, rfl, rfl, hp, rB.mono hs (Ext.refl H).kp, fun _ _ => ⟨rfl, rfl⟩, id⟩
    · simp at hi hj
      rw [hi, hj]
    · have : q = (0, p) := by simpa using hq
      subst this
      refine ⟨by simp, ?_, rfl, rfl⟩
      show (L2.start N (.ref p :: rest))[0]? = _
      rw [start_get, if_pos (by simp)]
      rfl
  have eB : bb.B = H := by rw [← hbb]
  have eS : bb.S0 = S0 := by rw [← hbb]
  have eR : bb.Rm = fun i a => i = 0 ∧ a = p := by rw [← hbb]
  have eF : bb.rf = [(0, p)] := by rw [← hbb]
  have eZ : bb.Z = fun _ => False := by rw [← hbb]
  refine ⟨_, bb, ⟨fun p z => by rw [eZ] at z; exact z, fun q hq => by rw [eF] at hq; simp at hq; simp [cB, hq], fun i p z => by rw [eR] at z; simp [cB, z.1]⟩, L0, ?_⟩
  have hx : ∀ {Mr σ' H' δ'}, Loc K Mr bb σ' H' δ' → ∀ q o, H q = some o → q ≠ p → H' q = some o := fun {Mr σ' H' δ'} L' q o h n => L'.fr q o (by rw [eB]; exact h) fun i z => by rw [eR] at z; exact n z.2
  have hS : ∀ q, (∀ o, bb.B q = some o → bb.S0 q) → Nw S0 bb.B q := fun q h => by
    rw [eB, eS] at h
    rw [eB]
    cases e : H q with
    | none => exact .inr e
    | some o => exact .inl (h o e)
  have bx : ∀ {Mr σ' H' δ' o}, Loc K Mr bb σ' H' δ' → box δ' = some o → ∃ ws', H' p = some (.lst ws') ∧ RpA K (Nw S0 H) H' ws' o := fun {Mr σ' H' δ' o} L' e => by
    obtain ⟨h1, h2, _⟩ := L'.rfs (0, p) (by rw [eF]; simp)
    have m := L'.mu 0 h1
    unfold box at e
    cases e2 : δ'[0]? with
    | none => rw [e2] at e; cases e
    | some u =>
      rw [e2] at e
      cases u with
      | none => cases e
      | some d =>
        cases d with
        | list o' =>
          cases e
          obtain ⟨a, ws', es, g1, g2, g3, g4, _⟩ := getSlotM m e2
          have h2 : σ'[0]? = some (some (.ref p)) := h2
          rw [h2] at g1
          cases g1
          cases g2
          refine ⟨ws', g3, g4.mono (fun q h => ?_) (Ext.refl _).kp⟩
          have := hS q h.2.2
          rw [eB] at this
          exact this
        | _ => cases e
  unfold runB at q
  cases e : sv (env0 N.length (.list bc :: ds)) with
  | bad => rw [e] at q; exact q
  | nx δ' =>
    rw [e] at q
    intro σ' H' L'
    dsimp only at q
    cases e2 : box δ' with
    | none => rw [e2] at q; exact q.elim
    | some o =>
      rw [e2] at q
      obtain ⟨ws', g1, g2⟩ := bx L' e2
      refine q .non H' ws' (hx L') g1 g2 .non fun z => ?_
      rcases hfr with z' | z'
      · rw [z'] at z; cases z
      · exact absurd e (z' _ _)
  | rt d δ' =>
    rw [e] at q
    dsimp only at q
    intro v H' r'
    cases e2 : box δ' with
    | none => rw [e2] at q; exact q.elim
    | some o =>
      rw [e2] at q
      obtain ⟨a1, a2⟩ := retN r' hS (fun Mr σ' W a L' h1 h2 ⟨i, hi, ei⟩ => cellNew L' (sb_of h1 i hi) ei fun z => by
        rw [eR] at z
        exact h2 (0, p) (by rw [eF]; simp) (by rw [← z.1]; exact hi))
      rw [eB] at a1 a2
      obtain ⟨Mr, W, σ', L', _⟩ := r'
      obtain ⟨ws', g1, g2⟩ := bx L' e2
      exact q v H' ws' (hx L') g1 g2 a1 a2
  | exc c g y δ' =>
    rw [e] at q
    dsimp only at q
    intro cls dd σ' H' Mr _ L' ex
    cases e2 : box δ' with
    | none => rw [e2] at q; exact q.elim
    | some o =>
      rw [e2] at q
      obtain ⟨ws', g1, g2⟩ := bx L' e2
      refine q cls dd H' ws' (hx L') g1 g2 ?_
      exact ex.conv fun p h => by rw [← eB]; exact h
end
end BD
namespace BD
open PySem PySem.Spec L2
/-! ### calls of defs -/
def pick {α : Type} (ix : List Nat) (xs : List α) : List α := ix.filterMap fun i => xs[i]?
theorem RpA.pick {K S H vs ds} (r : RpA K S H vs ds) : ∀ ix : List Nat, RpA K S H (BD.pick ix vs) (BD.pick ix ds)
  | [] => .nil
  | i :: ix => by
    unfold BD.pick
    rw [List.filterMap_cons, List.filterMap_cons]
    have ih : RpA K S H (ix.filterMap fun i => vs[i]?) (ix.filterMap fun i => ds[i]?) := RpA.pick r ix
    cases h : vs[i]? with
    | none =>
      have : ds[i]? = none := by
        rw [List.getElem?_eq_none_iff] at h ⊢
        rw [← r.length]; exact h
      rw [this]
      exact ih
    | some v =>
      obtain ⟨d, h1, h2⟩ := r.get h
      rw [h1]
      exact .cons h2 ih
theorem vals_pick {vs : List V} {us : List Value} (r : Vals vs us) : ∀ ix : List Nat, Vals (pick ix vs) (pick ix us)
  | [] => .nil
  | i :: ix => by
    unfold pick
    rw [List.filterMap_cons, List.filterMap_cons]
    have ih : Vals (ix.filterMap fun i => vs[i]?) (ix.filterMap fun i => us[i]?) := vals_pick r ix
    cases h : vs[i]? with
    | none =>
      have : us[i]? = none := by
        rw [List.getElem?_eq_none_iff] at h ⊢
        rw [← r.length]; exact h
      rw [this]
      exact ih
    | some v =>
      obtain ⟨d, h1, h2⟩ := r.get h
      rw [h1]
      exact .cons h2 ih
/-- how a call with n positional and the keywords ks binds: the parameter at j gets the argument at ix[j] -/
structure KB (K : PySem.W.Frag) (fd : FuncData) (ps : List Str) (n : Nat) (ks : List Str) (ix : List Nat) : Prop where
  to : ∀ (s : Shared) (us ws : List Value), K.In s.heap → us.length = n → ws.length = ks.length → BindsTo s fd ⟨us, ks.zip ws⟩ (ps.zip (pick ix (us ++ ws)))
theorem KB.mk_ {K : PySem.W.Frag} {x qual : Str} {st : Stmt} {f : Addr} {fd : FuncData} {ps : List Str} {n : Nat} {ks : List Str} {ix : List Nat} (F : Fun K x qual st f fd)
    (h : ∀ (kV doc pm : Value) (an : Option Addr) (cdv ct : Value) (us ws : List Value), us.length = n → ws.length = ks.length → bindArgs (PySem.W.fnOf x qual (defArgs st) (defBody st) (defScope st) .none kV doc pm an cdv ct) ⟨us, ks.zip ws⟩ = pure (ps.zip (pick ix (us ++ ws)))) : KB K fd ps n ks ix := by
  obtain ⟨oc, od, kV, doc, pm, an, cdv, ct, osl, rfl, lk, hcd⟩ := F.ex
  exact ⟨fun s us ws _ h1 h2 => .of_eq (h kV doc pm an cdv ct us ws h1 h2)⟩
def tCallKS (n m : Nat) (ix : List Nat) (sp : Sp) (E : L2.St → XK) (t tk : TA) : TE := fun σ H Q => t σ H fun vs H1 => tk σ H1 fun zs H2 => vs.length = n ∧ zs.length = m ∧ sp (pick ix (vs ++ zs)) H2 Q (E σ)
section
variable {X : Cx} {k n : Nat} {ix : List Nat} {f : Addr} {fd : FuncData} {ps ks : List Str} {sp : Sp} {E : L2.St → XK} {x : Str} {p pos : Pos} {e : Expr} {es : List Expr} {kws : List Keyword} {t tk : TA}
theorem run_fnKS {pins : List (Addr × Obj)} {σ : L2.St} {H : Hp} {s : Shared} {Q : VK} {us ws : List Value} {vs zs : List V} (F : FnG X.prog X.w X.K X.mg X.base k f fd ps sp) (hr : RoomG k X.A) (hb : KB X.K fd ps n ks ix) (hx : PassesAt (L2.CX X.prog X.w) X σ (E σ))
    (I : Inv X pins σ H s) (r : Vals vs us) (rz : Vals zs ws) (l1 : vs.length = n) (l2 : zs.length = ks.length) (h : sp (pick ix (vs ++ zs)) H Q (E σ)) : wpAny (model X.prog X.w) X.A (call (.ref f) us (ks.zip ws)) (EP X pins σ Q) X.xe s := by
  have r2 := vals_pick (r.append rz) ix
  refine wpAny_call (codeAny_mono (F.go X.A X.stack s H ⟨us, ks.zip ws⟩ (pick ix (us ++ ws)) (pick ix (vs ++ zs)) Q (E σ) hr I.env0 (hb.to s us ws I.kIn (r.length.symm.trans l1) (rz.length.symm.trans l2)) r2 h) fun r s' hq => ?_)
  cases r with
  | error e => exact hx pins H s e s' I hq
  | ok fl =>
    cases fl with
    | ret u => exact I.after hq
    | next => exact False.elim hq
    | brk => exact False.elim hq
    | cont => exact False.elim hq
/-- f(e, .., k = v, ..) -/
theorem pe_callKS (F : FnG X.prog X.w X.K X.mg X.base k f fd ps sp) (hr : RoomG k X.A) (hm : X.mg x = some (.ref f)) (hk : PySem.W.keepIn X.K (.ref f) = true) (hb : KB X.K fd ps n ks ix) (hx : ∀ σ, PassesAt (L2.CX X.prog X.w) X σ (E σ))
    (ha : PA X (e :: es) t) (hkw : PK X kws tk) (hg : Gl X x := by rfl) (hall : (backToKw pos (keywordEach kws X.env)).all (·.1.isSome) = true := by rfl) (hks : (backToKw pos (keywordEach kws X.env)).filterMap (·.1) = ks := by rfl)
    (hdb : (x == ("__debug__" : Str)) = false := by decide) (he : starEach (e :: es) X.env = (false, eval e X.env) :: starEach es X.env := by rfl)
    (hpl : ((backTo pos (starEach (e :: es) X.env)).any (·.1) || (backToKw pos (keywordEach kws X.env)).any (·.1.isNone)) = false := by rfl) :
    PE X (.Call (.Name x p) (e :: es) kws pos) (tCallKS n ks.length ix sp E t tk) := by
  refine ⟨fun pins s σ H Q I h => ?_⟩
  refine wpAny_Call_Name_kw (ld_glob I hg hm ?_ hdb)
  refine PySem.W.callWith_KW (h₀ := X.base) I.ok.mod.kin hk hall (thn (ha.run pos pins s σ H _ I h) fun us s1 ⟨vs, H1, I1, r, q⟩ => ?_) hpl he
  refine thn (hkw.run pos pins s1 σ H1 _ I1 q) fun ws s2 ⟨zs, H2, I2, rz, l1, l2, q2⟩ => ⟨I2.kIn, ?_⟩
  rw [hks]
  exact run_fnKS F hr hb (hx σ) I2 r rz l1 l2 q2
theorem pe_callKS0 (F : FnG X.prog X.w X.K X.mg X.base k f fd ps sp) (hr : RoomG k X.A) (hm : X.mg x = some (.ref f)) (hk : PySem.W.keepIn X.K (.ref f) = true) (hb : KB X.K fd ps 0 ks ix) (hx : ∀ σ, PassesAt (L2.CX X.prog X.w) X σ (E σ))
    (hkw : PK X kws tk) (hg : Gl X x := by rfl) (hall : (backToKw pos (keywordEach kws X.env)).all (·.1.isSome) = true := by rfl) (hks : (backToKw pos (keywordEach kws X.env)).filterMap (·.1) = ks := by rfl)
    (hdb : (x == ("__debug__" : Str)) = false := by decide) (hpl : ((backTo pos (starEach [] X.env)).any (·.1) || (backToKw pos (keywordEach kws X.env)).any (·.1.isNone)) = false := by rfl) :
    PE X (.Call (.Name x p) [] kws pos) (tCallKS 0 ks.length ix sp E tNil tk) := by
  refine ⟨fun pins s σ H Q I h => ?_⟩
  refine wpAny_Call_Name_kw (ld_glob I hg hm ?_ hdb)
  refine PySem.W.callWith_KW0 (h₀ := X.base) I.ok.mod.kin hk hall ?_ hpl
  have h : tk σ H fun zs H2 => ([] : List V).length = 0 ∧ zs.length = ks.length ∧ sp (pick ix ([] ++ zs)) H2 Q (E σ) := h
  refine thn (hkw.run pos pins s σ H _ I h) fun ws s2 ⟨zs, H2, I2, rz, l1, l2, q2⟩ => ⟨I2.kIn, ?_⟩
  rw [hks]
  exact run_fnKS F hr hb (hx σ) I2 .nil rz rfl l2 q2
end
def tCallG (sp : Sp) (E : L2.St → XK) (t : TA) : TE := fun σ H Q => t σ H fun vs H1 => sp vs H1 Q (E σ)
theorem pe_callG {X : Cx} {k : Nat} {f : Addr} {fd : FuncData} {ps : List Str} {sp : Sp} {E : L2.St → XK} {x : Str} {p pos : Pos} {e : Expr} {es : List Expr} {t : TA} (F : FnG X.prog X.w X.K X.mg X.base k f fd ps sp) (hr : RoomG k X.A) (hg : Gl X x) (hm : X.mg x = some (.ref f)) (hk : PySem.W.keepIn X.K (.ref f) = true) (hb : Binds X.K fd ps [])
    (pass : ∀ σ, PassesAt (L2.CX X.prog X.w) X σ (E σ)) (args : PA X (e :: es) t) (ndb : (x == ("__debug__" : Str)) = false) (se : starEach (e :: es) X.env = (false, eval e X.env) :: starEach es X.env) (pl : (backTo pos (starEach es X.env)).any (·.1) = false) :
    PE X (.Call (.Name x p) (e :: es) [] pos) (tCallG sp E t) := by
  refine ⟨fun pins s σ H Q I want => wpAny_Call_Name_kw (ld_glob I hg hm ?_ ndb)⟩
  refine PySem.W.callWith_K (h₀ := X.base) I.ok.mod.kin hk (thn (args.run pos pins s σ H _ I want) fun us s1 ⟨vs, H1, I1, r, q⟩ => ⟨I1.kIn, ?_⟩) se pl
  have b := hb s1 us I1.kIn (by rw [List.append_nil, ← r.length]; exact F.len _ _ _ _ q)
  rw [List.append_nil] at b
  refine wpAny_call (codeAny_mono (F.go X.A X.stack s1 H1 ⟨us, []⟩ us vs Q (E σ) hr I1.env0 b r q) fun res s2 got => ?_)
  cases res with
  | error er => exact pass σ pins H1 s1 er s2 I1 got
  | ok fl =>
    cases fl with
    | ret u => exact I1.after got
    | _ => exact False.elim got
/-! ### the arguments: positional ones, then keywords -/
def PKD (X : Cx) (wx : WXs) (M W U : List Nat) (kws : List Keyword) (ev : Env → R (List PyData)) : Prop := PK X kws (tDA X.K X.mg wx M W U ev)
section
variable {X : Cx} {wx : WXs} {M W W1 W2 U U1 U2 : List Nat}
theorem pk_imp {es : List Keyword} {t t' : TA} (h : PK X es t) (i : ∀ σ H Q, t' σ H Q → t σ H Q) : PK X es t' := ⟨fun pos pins s σ H Q I q => h.run pos pins s σ H Q I (i _ _ _ q)⟩
theorem pkd_nil : PKD X wx M [] [] [] eNil := pk_imp pk_nil fun σ H Q ⟨δ, b, L, f⟩ => f [] H L (Gr.refl _ _ _) .nil
theorem pkd_cons {e : Expr} {kws : List Keyword} {nm : Option Str} {kpos : Pos} {ev : Ev} {evs : Env → R (List PyData)} (ha : PD X wx M W1 U1 e ev) (hr : PKD X wx M W2 U2 kws evs) (h1 : sb U2 M = true := by rfl) (h2 : sb W1 M = true := by rfl) (h3 : dj U2 W1 = true := by rfl) :
    PKD X wx M (W1 ++ W2) (U1 ++ U2) (⟨nm, e, kpos⟩ :: kws) (eCons ev evs) := by
  refine pk_imp (pk_cons ha hr) fun σ H Q ⟨δ, b, L, f⟩ => ⟨δ, b, L, ?_⟩
  unfold eCons at f
  cases e1 : ev δ with
  | bad => rw [e1] at f; exact f
  | exc c g x e' => rw [e1] at f; exact fun cls dd H' L' g' ex => f cls dd H' L' (g'.mono inl_app) ex
  | ok d δ1 =>
    rw [e1] at f
    intro v H1 p
    refine ⟨δ1, b, p.loc, ?_⟩
    cases e2 : evs δ1 with
    | bad => simp only [R.bind, e2] at f; exact f
    | exc c g x e' => simp only [R.bind, e2] at f; exact fun cls dd H' L' g' ex => f cls dd H' L' (p.gr.trans g' inl_app inr_app) ex
    | ok ds δ2 =>
      simp only [R.bind, e2] at f
      intro vs H2 L2 g2 r2
      exact f (v :: vs) H2 L2 (p.gr.trans g2 inl_app inr_app) (.cons ((p.rp.keep p.loc g2 h1 h2 h3).wide inl_app) (r2.wide inr_app))
/-- both, one after the other -/
def eApd (n m : Nat) (a c : Env → R (List PyData)) : Env → R (List PyData) := fun δ => (a δ).bind fun ds δ1 => (c δ1).bind fun es δ2 => if ds.length = n ∧ es.length = m then .ok (ds ++ es) δ2 else .bad
theorem tDA_apd {K : PySem.W.Frag} {mg : Str → Option Value} {n m : Nat} {a c : Env → R (List PyData)} {σ : L2.St} {H : Hp} {Q : List V → Hp → Prop} (h1 : sb U2 M = true) (h2 : sb W1 M = true) (h3 : dj U2 W1 = true)
    (h : tDA K mg wx M (W1 ++ W2) (U1 ++ U2) (eApd n m a c) σ H Q) : tDA K mg wx M W1 U1 a σ H fun vs H1 => tDA K mg wx M W2 U2 c σ H1 fun zs H2 => vs.length = n ∧ zs.length = m ∧ Q (vs ++ zs) H2 := by
  obtain ⟨δ, b, L, f⟩ := h
  refine ⟨δ, b, L, ?_⟩
  unfold eApd at f
  cases e1 : a δ with
  | bad => rw [e1] at f; exact f
  | exc c g x e' => rw [e1] at f; exact fun cls dd H' L' g' ex => f cls dd H' L' (g'.mono inl_app) ex
  | ok ds δ1 =>
    rw [e1] at f
    intro vs H1 L1 g1 r1
    refine ⟨δ1, b, L1, ?_⟩
    cases e2 : c δ1 with
    | bad => simp only [R.bind, e2] at f; exact f
    | exc c g x e' => simp only [R.bind, e2] at f; exact fun cls dd H' L' g' ex => f cls dd H' L' (g1.trans g' inl_app inr_app) ex
    | ok es δ2 =>
      simp only [R.bind, e2] at f
      intro zs H2 L2 g2 r2
      by_cases hl : ds.length = n ∧ es.length = m
      · rw [if_pos hl] at f
        exact ⟨by rw [r1.length]; exact hl.1, by rw [r2.length]; exact hl.2, f (vs ++ zs) H2 L2 (g1.trans g2 inl_app inr_app) (((r1.keep L1 g2 h1 h2 h3).wide inl_app).app (r2.wide inr_app))⟩
      · rw [if_neg hl] at f; exact f.elim
def pickO {α : Type} : Option (List Nat) → List α → List α
  | none, xs => xs
  | some ix, xs => pick ix xs
theorem RpA.pickO {K S H vs ds} (r : RpA K S H vs ds) : ∀ ix : Option (List Nat), RpA K S H (BD.pickO ix vs) (BD.pickO ix ds)
  | none => r
  | some ix => r.pick ix
/-! ### calls: plain arguments -/
def frR (r : FR) (δ : Env) : R PyData := match r with
  | .ok d _ => .ok d δ
  | .exc c g x _ => .exc c g x δ
  | .bad => .bad
def eCallP (n : Nat) (ix : Option (List Nat)) (f : List PyData → FR) (args : Env → R (List PyData)) : Ev := fun δ => (args δ).bind fun ds δ1 => if (pickO ix ds).length = n then frR (f (pickO ix ds)) δ1 else .bad
theorem tD_callP {K : PySem.W.Frag} {mg : Str → Option Value} {n : Nat} {ix : Option (List Nat)} {fr : Bool} {f : List PyData → FR} {args : Env → R (List PyData)} {σ : L2.St} {H : Hp} {Q : VK} (h : tD K mg wx M W U (eCallP n ix f args) σ H Q) :
    tDA K mg wx M W U args σ H fun vs H1 => SpP K mg n fr f (pickO ix vs) H1 Q (WE wx σ) := by
  obtain ⟨δ, b, L, fin⟩ := h
  refine ⟨δ, b, L, ?_⟩
  unfold eCallP at fin
  cases e1 : args δ with
  | bad => rw [e1] at fin; exact fin
  | exc c g x e' => rw [e1] at fin; exact fin
  | ok ds δ1 =>
    rw [e1] at fin
    intro vs H1 L1 g1 r1
    simp only [R.bind] at fin
    by_cases hn : (pickO ix ds).length = n
    · rw [if_pos hn] at fin
      have r2 := r1.pickO ix
      refine ⟨by rw [r2.length]; exact hn, _, _, r2, ?_⟩
      cases e2 : f (pickO ix ds) with
      | bad => rw [e2] at fin; exact fin
      | ok d o =>
        rw [e2] at fin
        exact fun v H' ex r' _ => fin_op fin L1 g1 ex r'
      | exc c g x o =>
        rw [e2] at fin
        intro cls dd H' ex xr
        refine fin cls dd H' (L1.ext ex) (g1.trans (Gr.ext ex) (fun _ h => h) (fun _ (h : _ ∈ ([] : List Nat)) => by simp at h)) ?_
        exact xr.conv fun _ h => L1.nb h
    · rw [if_neg hn] at fin; exact fin.elim
theorem Loc.fresh2 {K : PySem.W.Frag} {b : Bs} {σ : L2.St} {H H' : Hp} {δ : Env} {p : Addr} {vs : List V} (L : Loc K M b σ H δ) (np : H p = none) (ex : Ext H H') (hp : H' p = some (.lst vs)) : Loc K M (bz b p) σ H' δ :=
  (L.fresh np (vs := vs)).ext fun q o e => by
    by_cases hq : q = p
    · subst hq
      rw [upd_same] at e
      rw [hp, e]
    · rw [upd_ne hq] at e
      exact ex q o e
theorem finF_fr {K : PySem.W.Frag} {mg : Str → Option Value} {b : Bs} {σ : L2.St} {H H1 H' : Hp} {δ' : Env} {d : PyData} {v : V} {S : Addr → Prop} {Q : VK} (f : FinF K mg wx M U b σ H (.ok d δ') Q) (L : Loc K M b σ H1 δ') (g : Gr U σ H H1)
    (s : sb U M = true) (ex : Ext H1 H') (hS : ∀ q, S q → Sb M b σ q) (r : FrN K S H1 H' v d) : Q v H' := by
  obtain ⟨p, ws, es, rfl, rfl, np, hp, r⟩ := r
  refine f _ _ ⟨⟨p, ws, es, rfl, rfl, g.none L (sb_of s) np, hp, L.fresh2 np ex hp, r.mono (fun q h => ?_) (Ext.refl _).kp⟩, g.trans (Gr.ext ex) (fun _ h => h) (fun _ (h : _ ∈ ([] : List Nat)) => by simp at h)⟩
  have h1 : Sb M b σ q := by
    rcases h.1 with h | h
    · exact hS q h
    · exact L.nw (fun _ h => h) h
  refine ⟨h1.1, ?_, h1.2.2⟩
  rintro (z | z)
  · exact h1.2.1 z
  · exact h.2 z
theorem tDF_callP {K : PySem.W.Frag} {mg : Str → Option Value} {n : Nat} {ix : Option (List Nat)} {f : List PyData → FR} {args : Env → R (List PyData)} {σ : L2.St} {H : Hp} {Q : VK} (hW : W.isEmpty = true) (hU : sb U M = true) (h : tDF K mg wx M U (eCallP n ix f args) σ H Q) :
    tDA K mg wx M W U args σ H fun vs H1 => SpP K mg n true f (pickO ix vs) H1 Q (WE wx σ) := by
  have hW : W = [] := by simpa using hW
  subst hW
  obtain ⟨δ, b, L, fin⟩ := h
  refine ⟨δ, b, L, ?_⟩
  unfold eCallP at fin
  cases e1 : args δ with
  | bad => rw [e1] at fin; exact fin
  | exc c g x e' => rw [e1] at fin; exact fin
  | ok ds δ1 =>
    rw [e1] at fin
    intro vs H1 L1 g1 r1
    simp only [R.bind] at fin
    by_cases hn : (pickO ix ds).length = n
    · rw [if_pos hn] at fin
      have r2 := r1.pickO ix
      refine ⟨by rw [r2.length]; exact hn, _, _, r2, ?_⟩
      cases e2 : f (pickO ix ds) with
      | bad => rw [e2] at fin; exact fin
      | ok d o =>
        rw [e2] at fin
        exact fun v H' ex r' fr => finF_fr fin L1 g1 hU ex (fun q h => h.nil) (fr rfl)
      | exc c g x o =>
        rw [e2] at fin
        intro cls dd H' ex xr
        refine fin cls dd H' (L1.ext ex) (g1.trans (Gr.ext ex) (fun _ h => h) (fun _ (h : _ ∈ ([] : List Nat)) => by simp at h)) ?_
        exact xr.conv fun _ h => L1.nb h
    · rw [if_neg hn] at fin; exact fin.elim
/-! ### calls: the first argument a cell -/
theorem upd_id {H : Hp} {p : Addr} {o o' : HO} (h : H p = some o) : upd (upd H p o') p o = H := by
  funext q
  by_cases e : q = p
  · subst e; rw [upd_same, h]
  · rw [upd_ne e, upd_ne e]
theorem Loc.box {K : PySem.W.Frag} {b : Bs} {σ : L2.St} {H H' : Hp} {δ : Env} {i : Nat} {p : Addr} {ws ws' : List V} {out : List PyData} {S' : Addr → Prop} (L : Loc K M b σ H δ) (hi : i ∈ M) (e : σ[i]? = some (some (.ref p))) (hp : H p = some (.lst ws))
    (k : ∀ q o, H q = some o → q ≠ p → H' q = some o) (hp' : H' p = some (.lst ws')) (r : RpA K S' H' ws' out) (lf : lfreeA out = true) : Loc K M b σ H' (δ.set i (some (.list out))) ∧ Gr [i] σ H H' := by
  have ex : Ext H (upd H' p (.lst ws)) := fun q o h => by
    by_cases hq : q = p
    · subst hq; rw [upd_same, ← hp, h]
    · rw [upd_ne hq]; exact k q o h hq
  have L1 := L.ext ex
  have r1 : RpA K (Sb M b σ) (upd H' p (.lst ws)) ws' out := by
    have r0 : RpA K (fun _ => False) H' ws' out := r.free lf
    refine r0.mono (fun _ z => z.elim) ⟨fun _ _ z => z.elim, fun q xs h => ?_⟩
    have : q ≠ p := fun z => by
      subst z
      rcases h with h | ⟨o, h⟩ <;> (rw [hp'] at h; cases h)
    rcases h with h | ⟨o, h⟩
    · exact .inl (by rw [upd_ne this]; exact h)
    · exact .inr ⟨o, by rw [upd_ne this]; exact h⟩
  obtain ⟨h1, h2⟩ := L1.put (ds := []) hi e upd_same r1
  rw [upd_id hp'] at h1 h2
  exact ⟨h1, (Gr.ext ex : Gr [] σ H _).trans h2 (fun _ h => by simp at h) (fun _ h => h)⟩
def frB (i : Nat) (r : FR) (δ : Env) : R PyData := match r with
  | .ok d o => if lfreeA o = true then .ok d (δ.set i (some (.list o))) else .bad
  | .exc c g x o => if lfreeA o = true then .exc c g x (δ.set i (some (.list o))) else .bad
  | .bad => .bad
def getL (i : Nat) (δ : Env) : Option (List PyData) := match δ[i]? with
  | some (some (PyData.list bc)) => some bc
  | _ => none
theorem getL_of {i : Nat} {δ : Env} {bc : List PyData} (h : getL i δ = some bc) : δ[i]? = some (some (.list bc)) := by
  unfold getL at h
  split at h
  · rename_i e; cases h; exact e
  · cases h
def eCallB (i n : Nat) (f : List PyData → List PyData → FR) (args : Env → R (List PyData)) : Ev := fun δ => match getL i δ with
  | none => .bad
  | some _ => (args δ).bind fun ds δ1 => match getL i δ1 with
    | some bc => if ds.length + 1 = n then frB i (f bc ds) δ1 else .bad
    | none => .bad
/-- what is to be shown of the name and of the other arguments -/
def tBox (i : Nat) (t : TA) (R : List V → Hp → Prop) (σ : L2.St) (H : Hp) : Prop := ∃ v, σ[i]? = some (some v) ∧ t σ H fun vs H1 => R (v :: vs) H1
theorem tD_callB {K : PySem.W.Frag} {mg : Str → Option Value} {i n : Nat} {fr : Bool} {f : List PyData → List PyData → FR} {args : Env → R (List PyData)} {σ : L2.St} {H : Hp} {Q : VK} (hM : M.contains i = true) (hi : W.contains i = false) (hw : sb W M = true) (h : tD K mg wx M W (U ++ [i]) (eCallB i n f args) σ H Q) :
    tBox i (tDA K mg wx M W U args) (fun vs H1 => SpB K mg n fr f vs H1 Q (WE wx σ)) σ H := by
  have hM : i ∈ M := by simpa using hM
  obtain ⟨δ, b, L, fin⟩ := h
  unfold eCallB at fin
  cases e0 : getL i δ with
  | none => rw [e0] at fin; exact fin.elim
  | some bc0 =>
    rw [e0] at fin
    obtain ⟨p, _, _, es, _⟩ := getSlotM (L.mu i hM) (getL_of e0)
    refine ⟨_, es, δ, b, L, ?_⟩
    dsimp only at fin
    cases e1 : args δ with
    | bad => rw [e1] at fin; exact fin
    | exc c g x e' => rw [e1] at fin; exact fun cls dd H' L' g' ex => fin cls dd H' L' (g'.mono inl_app) ex
    | ok ds δ1 =>
      rw [e1] at fin
      intro vs H1 L1 g1 r1
      simp only [R.bind] at fin
      cases e2 : getL i δ1 with
      | none => rw [e2] at fin; exact fin.elim
      | some bc =>
        rw [e2] at fin
        dsimp only at fin
        by_cases hn : ds.length + 1 = n
        · rw [if_pos hn] at fin
          obtain ⟨p', ws, ds', es', ebc, hp, rB, hB, hZ⟩ := getSlotM (L1.mu i hM) (getL_of e2)
          rw [es] at es'
          cases es'
          cases ebc
          have nS : ¬ SW M W b σ p := fun h => by
            rcases h with ⟨j, hj, ej⟩ | h
            · have := L1.inj i j p hM (sb_of hw j hj) es ej
              subst this
              simp [hj] at hi
            · exact h.1 ⟨i, hM, es⟩
          refine ⟨by rw [List.length_cons, r1.length]; exact hn, p, vs, ws, bc, ds, SW M W b σ, rfl, hp, rB.mono (fun _ h => .inr h) (Ext.refl _).kp, r1, nS, ?_⟩
          cases e3 : f bc ds with
          | bad => rw [e3] at fin; exact fin
          | ok d out =>
            rw [e3] at fin
            unfold frB at fin
            dsimp only at fin
            split at fin
            · rename_i lf
              intro v H' ws' k hp' rO rv _
              obtain ⟨La, ga⟩ := L1.box hM es hp k hp' rO lf
              refine fin v H' ⟨La, g1.trans ga inl_app inr_app, rv.mono (fun q h => ?_) (Ext.refl _).kp⟩
              rcases h with h | h
              · exact h
              · exact L1.nwW h
            · exact fin.elim
          | exc c g x out =>
            rw [e3] at fin
            unfold frB at fin
            dsimp only at fin
            split at fin
            · rename_i lf
              intro cls dd H' ws' k hp' rO xr
              obtain ⟨La, ga⟩ := L1.box hM es hp k hp' rO lf
              refine fin cls dd H' La (g1.trans ga inl_app inr_app) ?_
              exact xr.conv fun _ h => L1.nb h
            · exact fin.elim
        · rw [if_neg hn] at fin; exact fin.elim
theorem tDF_callB {K : PySem.W.Frag} {mg : Str → Option Value} {i n : Nat} {f : List PyData → List PyData → FR} {args : Env → R (List PyData)} {σ : L2.St} {H : Hp} {Q : VK} (hM : M.contains i = true) (hW : W.isEmpty = true) (hU : sb U M = true) (h : tDF K mg wx M (U ++ [i]) (eCallB i n f args) σ H Q) :
    tBox i (tDA K mg wx M W U args) (fun vs H1 => SpB K mg n true f vs H1 Q (WE wx σ)) σ H := by
  have hM : i ∈ M := by simpa using hM
  have hW : W = [] := by simpa using hW
  subst hW
  obtain ⟨δ, b, L, fin⟩ := h
  unfold eCallB at fin
  cases e0 : getL i δ with
  | none => rw [e0] at fin; exact fin.elim
  | some bc0 =>
    rw [e0] at fin
    obtain ⟨p, _, _, es, _⟩ := getSlotM (L.mu i hM) (getL_of e0)
    refine ⟨_, es, δ, b, L, ?_⟩
    dsimp only at fin
    cases e1 : args δ with
    | bad => rw [e1] at fin; exact fin
    | exc c g x e' => rw [e1] at fin; exact fun cls dd H' L' g' ex => fin cls dd H' L' (g'.mono inl_app) ex
    | ok ds δ1 =>
      rw [e1] at fin
      intro vs H1 L1 g1 r1
      simp only [R.bind] at fin
      cases e2 : getL i δ1 with
      | none => rw [e2] at fin; exact fin.elim
      | some bc =>
        rw [e2] at fin
        dsimp only at fin
        by_cases hn : ds.length + 1 = n
        · rw [if_pos hn] at fin
          obtain ⟨p', ws, ds', es', ebc, hp, rB, hB, hZ⟩ := getSlotM (L1.mu i hM) (getL_of e2)
          rw [es] at es'
          cases es'
          cases ebc
          have nS : ¬ SW M [] b σ p := fun h => h.nil.1 ⟨i, hM, es⟩
          refine ⟨by rw [List.length_cons, r1.length]; exact hn, p, vs, ws, bc, ds, SW M [] b σ, rfl, hp, rB.mono (fun _ h => .inr h) (Ext.refl _).kp, r1, nS, ?_⟩
          cases e3 : f bc ds with
          | bad => rw [e3] at fin; exact fin
          | ok d out =>
            rw [e3] at fin
            unfold frB at fin
            dsimp only at fin
            split at fin
            · rename_i lf
              intro v H' ws' k hp' rO _ hfr
              obtain ⟨a, us, ls, rfl, rfl, na, ha, rl⟩ := hfr rfl
              have nap : a ≠ p := fun z => by rw [z, hp] at na; cases na
              have g0 : Gr (U ++ [i]) σ H H' := by
                obtain ⟨_, ga⟩ := L1.box hM es hp k hp' rO lf
                exact g1.trans ga inl_app inr_app
              have Lh := (L1.fresh na (vs := us)).box (H' := H') hM es (by rw [upd_ne nap.symm]; exact hp) (fun q o h n => by
                by_cases hq : q = a
                · subst hq
                  rw [upd_same] at h
                  rw [ha, h]
                · rw [upd_ne hq] at h
                  exact k q o h n) hp' rO lf
              refine fin _ H' ⟨⟨a, us, ls, rfl, rfl, g1.none L1 (sb_of hU) na, ha, Lh.1, rl.mono (fun q h => ?_) (Ext.refl _).kp⟩, g0⟩
              have h1 : Sb M b σ q := by
                rcases h.1 with h | h
                · exact h.nil
                · exact L1.nw (fun _ h => h) h
              refine ⟨h1.1, ?_, h1.2.2⟩
              rintro (z | z)
              · exact h1.2.1 z
              · exact h.2 z
            · exact fin.elim
          | exc c g x out =>
            rw [e3] at fin
            unfold frB at fin
            dsimp only at fin
            split at fin
            · rename_i lf
              intro cls dd H' ws' k hp' rO xr
              obtain ⟨La, ga⟩ := L1.box hM es hp k hp' rO lf
              refine fin cls dd H' La (g1.trans ga inl_app inr_app) ?_
              exact xr.conv fun _ h => L1.nb h
            · exact fin.elim
        · rw [if_neg hn] at fin; exact fin.elim
/-! ### calls: the first argument a new list -/
def frT (r : FR) (δ : Env) : R PyData := match r with
  | .ok d _ => .ok d δ
  | .exc c g x _ => .exc c g x δ
  | .bad => .bad
def eCallT (n : Nat) (f : List PyData → List PyData → FR) (a : Ev) (args : Env → R (List PyData)) : Ev := fun δ => (a δ).bind fun x δ0 => (args δ0).bind fun ds δ1 => match x with
  | .list bc => if ds.length + 1 = n then frT (f bc ds) δ1 else .bad
  | _ => .bad
def tTmp (te : TE) (t : TA) (R : List V → Hp → Prop) (σ : L2.St) (H : Hp) : Prop := te σ H fun v H1 => t σ H1 fun vs H2 => R (v :: vs) H2
theorem tD_callT {K : PySem.W.Frag} {mg : Str → Option Value} {n : Nat} {fr : Bool} {f : List PyData → List PyData → FR} {a : Ev} {args : Env → R (List PyData)} {σ : L2.St} {H : Hp} {Q : VK} (hW : W.isEmpty = true) (hU : sb U1 M = true) (hU2 : sb U2 M = true) (h : tD K mg wx M W (U1 ++ U2) (eCallT n f a args) σ H Q) :
    tTmp (tDF K mg wx M U1 a) (tDA K mg wx M W U2 args) (fun vs H1 => SpB K mg n fr f vs H1 Q (WE wx σ)) σ H := by
  have hW : W = [] := by simpa using hW
  subst hW
  obtain ⟨δ, b, L, fin⟩ := h
  refine ⟨δ, b, L, ?_⟩
  unfold eCallT at fin
  cases e0 : a δ with
  | bad => rw [e0] at fin; exact fin
  | exc c g x e' => rw [e0] at fin; exact fun cls dd H' L' g' ex => fin cls dd H' L' (g'.mono inl_app) ex
  | ok d0 δ0 =>
    rw [e0] at fin
    rintro v H1 ⟨⟨p, ws, bc, rfl, rfl, np, hp, L1, rB⟩, g1⟩
    refine ⟨δ0, bz b p, L1, ?_⟩
    simp only [R.bind] at fin
    cases e1 : args δ0 with
    | bad => rw [e1] at fin; exact fin
    | exc c g x e' =>
      rw [e1] at fin
      intro cls dd H' L' g' ex
      refine fin cls dd H' L'.unhide (g1.trans g' inl_app inr_app) ?_
      exact ex
    | ok ds δ1 =>
      rw [e1] at fin
      intro vs H2 L2 g2 r2
      simp only at fin
      by_cases hn : ds.length + 1 = n
      · rw [if_pos hn] at fin
        have hp2 : H2 p = some (.lst ws) := g2 p _ hp fun c => by
          obtain ⟨j, hj, ej⟩ := c
          have m := L1.mu j (sb_of hU2 j hj)
          rw [ej] at m
          revert m
          cases δ0[j]? with
          | none => exact fun m => m.elim
          | some u => cases u with
            | none => exact fun m => m.elim
            | some du =>
              rintro ⟨a', ws', es, h1, _, _, _, _, h6⟩
              cases h1
              exact h6 (.inr rfl)
        have rB2 : RpA K (SW M [] (bz b p) σ) H2 ws bc := (rB.mono (fun _ h => .inr h) (Ext.refl _).kp).keep (W1 := []) L1 g2 hU2 rfl (by simp [dj])
        have nS : ¬ SW M [] (bz b p) σ p := fun h => h.nil.2.1 (.inr rfl)
        refine ⟨by rw [List.length_cons, r2.length]; exact hn, p, vs, ws, bc, ds, SW M [] (bz b p) σ, rfl, hp2, rB2, r2, nS, ?_⟩
        have Lq : ∀ {H' : Hp} {ws' : List V}, (∀ q o, H2 q = some o → q ≠ p → H' q = some o) → H' p = some (.lst ws') → Loc K M b σ H' δ1 ∧ Gr (U1 ++ U2) σ H H' := fun {H' ws'} k hp' => by
          have ex : Ext (upd H2 p (.lst ws')) H' := fun q o h => by
            by_cases hq : q = p
            · subst hq; rw [upd_same] at h; rw [hp', h]
            · rw [upd_ne hq] at h; exact k q o h hq
          refine ⟨((L2.putZ (vs := ws') (.inr rfl)).ext ex).unhide, ?_⟩
          have g12 : Gr (U1 ++ U2) σ H H2 := g1.trans g2 inl_app inr_app
          exact fun q o h n => k q o (g12 q o h n) fun z => by rw [z, np] at h; cases h
        have hs : ∀ q, Nw (SW M [] (bz b p) σ) H2 q → SW M [] b σ q := fun q h => by
          rcases h with h | h
          · exact .inr ⟨h.nil.1, fun z => h.nil.2.1 (.inl z), h.nil.2.2⟩
          · have := L2.nw (M' := M) (fun _ h => h) h
            exact .inr ⟨this.1, fun z => this.2.1 (.inl z), this.2.2⟩
        cases e3 : f bc ds with
        | bad => rw [e3] at fin; exact fin
        | ok d out =>
          rw [e3] at fin
          intro v H' ws' k hp' rO rv _
          obtain ⟨La, ga⟩ := Lq k hp'
          exact fin v H' ⟨La, ga, rv.mono hs (Ext.refl _).kp⟩
        | exc c g x out =>
          rw [e3] at fin
          intro cls dd H' ws' k hp' rO xr
          obtain ⟨La, ga⟩ := Lq k hp'
          refine fin cls dd H' La ga ?_
          exact xr.conv fun _ h => L2.nb h
      · rw [if_neg hn] at fin; exact fin.elim
section
variable {k n : Nat} {f : Addr} {fd : FuncData} {ps ks : List Str} {ix : List Nat} {fr : Bool} {g : List PyData → FR} {gb : List PyData → List PyData → FR} {x : Str} {p pos : Pos} {e : Expr} {es : List Expr} {evs evk : Env → R (List PyData)} {kws : List Keyword}
/-- f(e, ..) -/
theorem pd_callP (F : FnG X.prog X.w X.K X.mg X.base k f fd ps (SpP X.K X.mg n fr g)) (hr : RoomG k X.A) (hm : X.mg x = some (.ref f)) (hk : PySem.W.keepIn X.K (.ref f) = true) (hb : Binds X.K fd ps []) (tk : Takes X wx) (ha : PAD X wx M W U (e :: es) evs) (hg : Gl X x := by rfl)
    (hdb : (x == ("__debug__" : Str)) = false := by decide) (he : starEach (e :: es) X.env = (false, eval e X.env) :: starEach es X.env := by rfl) (hpl : (backTo pos (starEach es X.env)).any (·.1) = false := by rfl) :
    PD X wx M W U (.Call (.Name x p) (e :: es) [] pos) (eCallP n none g evs) :=
  pe_imp (pe_callG F hr hg hm hk hb (fun σ => passAt tk σ) ha hdb he hpl) fun σ H Q h => tD_callP h
theorem pfd_callP (F : FnG X.prog X.w X.K X.mg X.base k f fd ps (SpP X.K X.mg n true g)) (hr : RoomG k X.A) (hm : X.mg x = some (.ref f)) (hk : PySem.W.keepIn X.K (.ref f) = true) (hb : Binds X.K fd ps []) (tk : Takes X wx) (ha : PAD X wx M W U (e :: es) evs) (hg : Gl X x := by rfl)
    (hW : W.isEmpty = true := by rfl) (hU : sb U M = true := by rfl) (hdb : (x == ("__debug__" : Str)) = false := by decide) (he : starEach (e :: es) X.env = (false, eval e X.env) :: starEach es X.env := by rfl) (hpl : (backTo pos (starEach es X.env)).any (·.1) = false := by rfl) :
    PFD X wx M U (.Call (.Name x p) (e :: es) [] pos) (eCallP n none g evs) :=
  pe_imp (pe_callG F hr hg hm hk hb (fun σ => passAt tk σ) ha hdb he hpl) fun σ H Q h => tDF_callP hW hU h
/-- f(e, .., k = v, ..) -/
theorem pd_callK {n1 : Nat} (F : FnG X.prog X.w X.K X.mg X.base k f fd ps (SpP X.K X.mg n fr g)) (hr : RoomG k X.A) (hm : X.mg x = some (.ref f)) (hk : PySem.W.keepIn X.K (.ref f) = true) (hb : KB X.K fd ps n1 ks ix) (tk : Takes X wx) (ha : PAD X wx M W1 U1 (e :: es) evs) (hkw : PKD X wx M W2 U2 kws evk)
    (h1 : sb U2 M = true := by rfl) (h2 : sb W1 M = true := by rfl) (h3 : dj U2 W1 = true := by rfl) (hg : Gl X x := by rfl) (hall : (backToKw pos (keywordEach kws X.env)).all (·.1.isSome) = true := by rfl) (hks : (backToKw pos (keywordEach kws X.env)).filterMap (·.1) = ks := by rfl)
    (hdb : (x == ("__debug__" : Str)) = false := by decide) (he : starEach (e :: es) X.env = (false, eval e X.env) :: starEach es X.env := by rfl)
    (hpl : ((backTo pos (starEach (e :: es) X.env)).any (·.1) || (backToKw pos (keywordEach kws X.env)).any (·.1.isNone)) = false := by rfl) :
    PD X wx M (W1 ++ W2) (U1 ++ U2) (.Call (.Name x p) (e :: es) kws pos) (eCallP n (some ix) g (eApd n1 ks.length evs evk)) :=
  pe_imp (pe_callKS F hr hm hk hb (fun σ => passAt tk σ) ha hkw hg hall hks hdb he hpl) fun σ H Q h => tDA_apd h1 h2 h3 (tD_callP h)
/-- f(k = v, ..) -/
theorem pd_callK0 (F : FnG X.prog X.w X.K X.mg X.base k f fd ps (SpP X.K X.mg n fr g)) (hr : RoomG k X.A) (hm : X.mg x = some (.ref f)) (hk : PySem.W.keepIn X.K (.ref f) = true) (hb : KB X.K fd ps 0 ks ix) (tk : Takes X wx) (hkw : PKD X wx M W U kws evk)
    (hg : Gl X x := by rfl) (hall : (backToKw pos (keywordEach kws X.env)).all (·.1.isSome) = true := by rfl) (hks : (backToKw pos (keywordEach kws X.env)).filterMap (·.1) = ks := by rfl)
    (hdb : (x == ("__debug__" : Str)) = false := by decide) (hpl : ((backTo pos (starEach [] X.env)).any (·.1) || (backToKw pos (keywordEach kws X.env)).any (·.1.isNone)) = false := by rfl) (h1 : sb U M = true := by rfl) :
    PD X wx M W U (.Call (.Name x p) [] kws pos) (eCallP n (some ix) g (eApd 0 ks.length eNil evk)) :=
  pe_imp (pe_callKS0 F hr hm hk hb (fun σ => passAt tk σ) hkw hg hall hks hdb hpl) fun σ H Q h => by
    have h := tDA_apd (W1 := []) (W2 := W) (U1 := []) (U2 := U) h1 rfl (by simp [dj]) (tD_callP (fr := fr) h)
    obtain ⟨δ, b, L, f⟩ := h
    exact f [] H L (Gr.refl _ _ _) .nil
/-- the first argument a cell -/
theorem pe_box {i : Nat} {t : TA} {sp : Sp} (F : FnG X.prog X.w X.K X.mg X.base k f fd ps sp) (hr : RoomG k X.A) (hm : X.mg x = some (.ref f)) (hk : PySem.W.keepIn X.K (.ref f) = true) (hb : Binds X.K fd ps []) (tk : Takes X wx) {y : Str} {py : Pos} (hN : X.N[i]? = some y) (hv : Vis X.env.scope y)
    (hd : (y == ("__debug__" : Str)) = false) (hcd : (y == ("__classdict__" : Str)) = false) (ha : PA X es t) (hg : Gl X x)
    (hdb : (x == ("__debug__" : Str)) = false) (he : starEach (.Name y py :: es) X.env = (false, eval (.Name y py) X.env) :: starEach es X.env) (hpl : (backTo pos (starEach es X.env)).any (·.1) = false) :
    PE X (.Call (.Name x p) (.Name y py :: es) [] pos) (fun σ H Q => tBox i t (fun vs H1 => sp vs H1 Q (WE wx σ)) σ H) :=
  pe_imp (pe_callG F hr hg hm hk hb (fun σ => passAt tk σ) (pa_cons (pe_var hN hv hd hcd) ha he) hdb he hpl) fun σ H Q h => h
theorem pd_callB (i : Nat) (F : FnG X.prog X.w X.K X.mg X.base k f fd ps (SpB X.K X.mg n fr gb)) (hr : RoomG k X.A) (hm : X.mg x = some (.ref f)) (hk : PySem.W.keepIn X.K (.ref f) = true) (hb : Binds X.K fd ps []) (tk : Takes X wx) (ha : PAD X wx M W U es evs) {y : Str} {py : Pos}
    (hM : M.contains i = true := by rfl) (hi : W.contains i = false := by rfl) (hw : sb W M = true := by rfl) (hN : X.N[i]? = some y := by rfl) (hv : Vis X.env.scope y := by first | exact Or.inl rfl | exact Or.inr (Or.inl rfl) | exact Or.inr (Or.inr rfl))
    (hd : (y == ("__debug__" : Str)) = false := by decide) (hcd : (y == ("__classdict__" : Str)) = false := by decide) (hg : Gl X x := by rfl)
    (hdb : (x == ("__debug__" : Str)) = false := by decide) (he : starEach (.Name y py :: es) X.env = (false, eval (.Name y py) X.env) :: starEach es X.env := by rfl) (hpl : (backTo pos (starEach es X.env)).any (·.1) = false := by rfl) :
    PD X wx M W (U ++ [i]) (.Call (.Name x p) (.Name y py :: es) [] pos) (eCallB i n gb evs) :=
  pe_imp (pe_box (i := i) F hr hm hk hb tk hN hv hd hcd ha hg hdb he hpl) fun σ H Q h => tD_callB hM hi hw h
theorem pfd_callB (i : Nat) (F : FnG X.prog X.w X.K X.mg X.base k f fd ps (SpB X.K X.mg n true gb)) (hr : RoomG k X.A) (hm : X.mg x = some (.ref f)) (hk : PySem.W.keepIn X.K (.ref f) = true) (hb : Binds X.K fd ps []) (tk : Takes X wx) (ha : PAD X wx M W U es evs) {y : Str} {py : Pos}
    (hM : M.contains i = true := by rfl) (hW : W.isEmpty = true := by rfl) (hU : sb U M = true := by rfl) (hN : X.N[i]? = some y := by rfl) (hv : Vis X.env.scope y := by first | exact Or.inl rfl | exact Or.inr (Or.inl rfl) | exact Or.inr (Or.inr rfl))
    (hd : (y == ("__debug__" : Str)) = false := by decide) (hcd : (y == ("__classdict__" : Str)) = false := by decide) (hg : Gl X x := by rfl)
    (hdb : (x == ("__debug__" : Str)) = false := by decide) (he : starEach (.Name y py :: es) X.env = (false, eval (.Name y py) X.env) :: starEach es X.env := by rfl) (hpl : (backTo pos (starEach es X.env)).any (·.1) = false := by rfl) :
    PFD X wx M (U ++ [i]) (.Call (.Name x p) (.Name y py :: es) [] pos) (eCallB i n gb evs) :=
  pe_imp (pe_box (i := i) F hr hm hk hb tk hN hv hd hcd ha hg hdb he hpl) fun σ H Q h => tDF_callB hM hW hU h
/-- the first argument a new list -/
theorem pd_callT {a : Ev} (F : FnG X.prog X.w X.K X.mg X.base k f fd ps (SpB X.K X.mg n fr gb)) (hr : RoomG k X.A) (hm : X.mg x = some (.ref f)) (hk : PySem.W.keepIn X.K (.ref f) = true) (hb : Binds X.K fd ps []) (tk : Takes X wx) (h0 : PFD X wx M U1 e a) (ha : PAD X wx M W U2 es evs)
    (hW : W.isEmpty = true := by rfl) (hU1 : sb U1 M = true := by rfl) (hU2 : sb U2 M = true := by rfl) (hg : Gl X x := by rfl)
    (hdb : (x == ("__debug__" : Str)) = false := by decide) (he : starEach (e :: es) X.env = (false, eval e X.env) :: starEach es X.env := by rfl) (hpl : (backTo pos (starEach es X.env)).any (·.1) = false := by rfl) :
    PD X wx M W (U1 ++ U2) (.Call (.Name x p) (e :: es) [] pos) (eCallT n gb a evs) :=
  pe_imp (pe_callG F hr hg hm hk hb (fun σ => passAt tk σ) (pa_cons h0 ha he) hdb he hpl) fun σ H Q h => tD_callT hW hU1 hU2 h
end
end
end BD
namespace BD
open PySem PySem.Spec PyProof.Rows L2
open PySem (sizeLine_eq)
/-! ### operators -/
theorem room_u {k : Nat} {A : Around} (hr : Room k A) : A.units + 64 < cLine := by have := hr.un; omega
/-- to a new list -/
def Op2F (K : PySem.W.Frag) (r : R2) (f : PyData → PyData → Option (List PyData)) : Prop :=
  ∀ (S : Addr → Prop) (H : Hp) (x y : V) (da db : PyData) (es : List PyData) (Q : VK), Rp K S H x da → Rp K S H y db → f da db = some es →
    (∀ p vs, H p = none → RpA K S H vs es → Q (.ref p) (upd H p (.lst vs))) → r x y H Q
def eBinF (f : PyData → PyData → Option (List PyData)) (a b : Ev) : Ev := eBin (fun x y => (f x y).map .list) a b
section
variable {X : Cx} {wx : WXs} {M W W1 W2 U U1 U2 : List Nat}
theorem pfd_bin {op : Operator} {r : R2} {f : PyData → PyData → Option (List PyData)} {a c : Expr} {ea eb : Ev} {pos : Pos} (ho : OpR X (binaryOp op) r) (hf : Op2F X.K r f) (ha : PD X wx M W1 U1 a ea) (hb : PD X wx M W2 U2 c eb)
    (h1 : sb U2 M = true := by rfl) (h2 : sb U1 M = true := by rfl) (h4 : W1.isEmpty = true := by rfl) (h5 : W2.isEmpty = true := by rfl) : PFD X wx M (U1 ++ U2) (.BinOp a op c pos) (eBinF f ea eb) := by
  have h4 : W1 = [] := by simpa using h4
  have h5 : W2 = [] := by simpa using h5
  subst h4 h5
  refine pe_imp (pe_op ho ha hb) fun σ H Q ⟨δ, b, L, fin⟩ => ⟨δ, b, L, ?_⟩
  unfold eBinF eBin at fin
  cases e1 : ea δ with
  | bad => rw [e1] at fin; exact fin
  | exc c g x e' => rw [e1] at fin; exact fun cls dd H' L' g' ex => fin cls dd H' L' (g'.mono inl_app) ex
  | ok d δ1 =>
    rw [e1] at fin
    intro v H1 p
    refine ⟨δ1, b, p.loc, ?_⟩
    cases e2 : eb δ1 with
    | bad => simp only [R.bind, e2] at fin; exact fin
    | exc c g x e' => simp only [R.bind, e2] at fin; exact fun cls dd H' L' g' ex => fin cls dd H' L' (p.gr.trans g' inl_app inr_app) ex
    | ok d2 δ2 =>
      simp only [R.bind, e2] at fin
      intro v2 H2 p2
      cases e3 : f d d2 with
      | none => rw [e3] at fin; exact fin.elim
      | some z =>
        rw [e3] at fin
        refine hf _ H2 v v2 d d2 z Q (p.rp.keep p.loc p2.gr h1 rfl (by simp [dj])) p2.rp e3 fun q vs nq rv => finF_op (U := U1 ++ U2) fin p2.loc (p.gr.trans p2.gr inl_app inr_app) ?_ nq rv
        rw [sb, List.all_append, Bool.and_eq_true]
        exact ⟨h2, h1⟩
/-! ints -/
def i2 (C : Int → Int → Bool) (g : Int → Int → Int) : PyData → PyData → Option PyData
  | .int i, .int j => if C i j = true then some (.int (g i j)) else none
  | _, _ => none
theorem op2_i2 {K : PySem.W.Frag} {P : Int → Int → Prop} {C : Int → Int → Bool} {g : Int → Int → Int} (h : ∀ i j, C i j = true → P i j) : Op2 K (rI P fun i j => .int (g i j)) (i2 C g) := by
  intro S H x y da db d Q rx ry e q
  cases rx with
  | int i =>
    cases ry with
    | int j =>
      unfold i2 at e
      dsimp only at e
      split at e
      · rename_i hc
        cases e
        exact ⟨i, j, rfl, rfl, h i j hc, q _ H (Ext.refl H) (.int _)⟩
      · cases e
    | _ => simp [i2] at e
  | _ => cases ry <;> simp [i2] at e
theorem op2_i20 {K : PySem.W.Frag} {g : Int → Int → Int} : Op2 K (rI0 fun i j => .int (g i j)) (i2 (fun _ _ => true) g) := by
  intro S H x y da db d Q rx ry e q
  cases rx with
  | int i =>
    cases ry with
    | int j =>
      unfold i2 at e
      dsimp only at e
      rw [if_pos rfl] at e
      cases e
      exact ⟨i, j, rfl, rfl, q _ H (Ext.refl H) (.int _)⟩
    | _ => simp [i2] at e
  | _ => cases ry <;> simp [i2] at e
def mulC (i j : Int) : Bool := decide (i.natAbs < 2 ^ 64) || decide (j.natAbs < 2 ^ 64) || decide (i.natAbs.log2 + j.natAbs.log2 < 1000000)
def rMulI : R2 := fun x y H Q => (rI CMul fun i j => .int (i * j)) x y H Q ∨ (rI CMulW fun i j => .int (i * j)) x y H Q
theorem op_mulI : OpR X (binaryOp .Mult) rMulI := op_mul.or op_mulW
theorem op2_mulI {K : PySem.W.Frag} : Op2 K rMulI (i2 mulC fun i j => i * j) := by
  intro S H x y da db d Q rx ry e q
  cases rx with
  | int i =>
    cases ry with
    | int j =>
      unfold i2 at e
      dsimp only at e
      split at e
      · rename_i hc
        cases e
        unfold mulC at hc
        rw [Bool.or_eq_true, Bool.or_eq_true, decide_eq_true_eq, decide_eq_true_eq, decide_eq_true_eq] at hc
        rcases hc with (hc | hc) | hc
        · exact .inl ⟨i, j, rfl, rfl, .inl ⟨by omega, by omega⟩, q _ H (Ext.refl H) (.int _)⟩
        · exact .inl ⟨i, j, rfl, rfl, .inr ⟨by omega, by omega⟩, q _ H (Ext.refl H) (.int _)⟩
        · exact .inr ⟨i, j, rfl, rfl, hc, q _ H (Ext.refl H) (.int _)⟩
      · cases e
    | _ => simp [i2] at e
  | _ => cases ry <;> simp [i2] at e
def divC (_ j : Int) : Bool := decide (0 < j) && decide (j.natAbs.log2 < 9000)
theorem op2_divI {K : PySem.W.Frag} : Op2 K (rI CDivW fun i j => .int (i / j)) (i2 divC fun i j => i / j) := op2_i2 fun i j h => by
  unfold divC at h
  rw [Bool.and_eq_true, decide_eq_true_eq, decide_eq_true_eq] at h
  exact h
def modC (_ j : Int) : Bool := decide (0 < j)
theorem op2_modI {K : PySem.W.Frag} : Op2 K (rI (fun _ j => 0 < j) fun i j => .int (i % j)) (i2 modC fun i j => i % j) := op2_i2 fun i j h => of_decide_eq_true h
def powC (i j : Int) : Bool := decide (0 ≤ j) && decide (j ≤ 1000000) && decide (i.natAbs < 2 ^ 64)
theorem op2_powI {K : PySem.W.Frag} : Op2 K (rI CPow fun i j => .int (i ^ j.toNat)) (i2 powC fun i j => i ^ j.toNat) := op2_i2 fun i j h => by
  unfold powC at h
  rw [Bool.and_eq_true, Bool.and_eq_true, decide_eq_true_eq, decide_eq_true_eq, decide_eq_true_eq] at h
  exact ⟨h.1.1, h.1.2, h.2⟩
/-! + of texts, lists, tuples -/
def rAddS : R2 := fun x y H Q => ∃ i j, x = .str i ∧ y = .str j ∧ i.length + j.length ≤ sizeLine ∧ Q (.str (i ++ j)) H
def addS : PyData → PyData → Option PyData
  | .str i, .str j => if i.length + j.length ≤ 16777216 then some (.str (i ++ j)) else none
  | _, _ => none
theorem op2_addS {K : PySem.W.Frag} : Op2 K rAddS addS := by
  intro S H x y da db d Q rx ry e q
  cases rx with
  | str i =>
    cases ry with
    | str j =>
      unfold addS at e
      dsimp only at e
      split at e
      · rename_i hc
        cases e
        exact ⟨i, j, rfl, rfl, by rw [sizeLine_eq]; exact hc, q _ H (Ext.refl H) (.str _)⟩
      · cases e
    | _ => simp [addS] at e
  | _ => cases ry <;> simp [addS] at e
def rCatL (K : PySem.W.Frag) : R2 := fun x y H Q => ∃ l b xs zs, x = .ref l ∧ y = .ref b ∧ SqL K H l xs ∧ SqL K H b zs ∧ xs.length + zs.length ≤ sizeLine ∧ ∀ p, H p = none → Q (.ref p) (upd H p (.lst (xs ++ zs)))
theorem op_catL : OpR X (binaryOp .Add) (rCatL X.K) := by
  intro pins s σ H x y v u Q I rx ry h
  obtain ⟨l, b, xs, zs, rfl, rfl, hl, hb, hz, q⟩ := h
  cases rx
  cases ry
  obtain ⟨its, r, p, _⟩ := I.list hl
  obtain ⟨its2, r2, p2, _⟩ := I.list hb
  obtain ⟨⟨cls, dd, data, sl⟩, ho, hc, n, hd⟩ := id p.isList
  obtain ⟨⟨cls2, dd2, data2, sl2⟩, ho2, hc2, n2, hd2⟩ := id p2.isList
  simp only at hc hd hc2 hd2
  subst hc hd hc2 hd2
  have e : its.toArray ++ its2.toArray = (its ++ its2).toArray := by simp
  refine concat_meets ⟨_, ho, rfl⟩ ⟨_, ho2, rfl⟩ noFill_list_add seq_list_add PySem.F.slot_list_add PySem.F.entry_list_add (PySem.F.args_list_add_2 _ _) (list_addW l b its.toArray its2.toArray n n2 dd dd2 sl sl2 (by simp; rw [← r.length, ← r2.length]; exact hz)) ⟨ho, ho2, ?_⟩
  rw [e]
  exact ⟨.ref _, _, I.lnew (t' := s.toks) (r.append r2) (by rw [List.length_append]; exact hz), rfl, q _ I.fresh⟩
def catLF : PyData → PyData → Option (List PyData)
  | .list xs, .list ys => if xs.length + ys.length ≤ 16777216 then some (xs ++ ys) else none
  | _, _ => none
theorem op2F_catL {K : PySem.W.Frag} : Op2F K (rCatL K) catLF := by
  intro S H x y da db es Q rx ry e q
  cases rx with
  | lst h t =>
    cases ry with
    | lst h2 t2 =>
      unfold catLF at e
      dsimp only at e
      split at e
      · rename_i hc
        cases e
        exact ⟨_, _, _, _, rfl, rfl, h.sq, h2.sq, by rw [sizeLine_eq, t.length, t2.length]; exact hc, fun p np => q p _ np (t.app t2)⟩
      · cases e
    | _ => simp [catLF] at e
  | _ => cases ry <;> simp [catLF] at e
/-- a new list is a value -/
theorem Op2F.op2 {K : PySem.W.Frag} {r : R2} {f : PyData → PyData → Option (List PyData)} (h : Op2F K r f) : Op2 K r (fun x y => (f x y).map .list) := by
  intro S H x y da db d Q rx ry e q
  have e : (f da db).map .list = some d := e
  cases e1 : f da db with
  | none => rw [e1] at e; cases e
  | some es =>
    rw [e1] at e
    cases e
    exact h S H x y da db es Q rx ry e1 fun p vs np rv => q _ _ (Ext.upd np) (.lst (.inl ⟨.inr np, .inl upd_same⟩) (rv.ext (fun _ h => .inl h) (Ext.upd np)))
def catT : PyData → PyData → Option PyData
  | .tuple xs, .tuple ys => if xs.length + ys.length ≤ 16777216 then some (.tuple (xs ++ ys)) else none
  | _, _ => none
theorem op2_catT {K : PySem.W.Frag} : Op2 K (rCatA K) catT := by
  intro S H x y da db d Q rx ry e q
  cases rx with
  | @tup a xs ds h t =>
    cases ry with
    | @tup b ys ds2 h2 t2 =>
      unfold catT at e
      dsimp only at e
      split at e
      · rename_i hc
        cases e
        refine ⟨a, b, xs, ys, rfl, rfl, h, h2, by rw [sizeLine_eq, t.length, t2.length]; exact hc, fun z => ?_, fun z z2 => ?_, fun z z2 p np => ?_⟩
        · subst z
          cases t
          exact q _ H (Ext.refl H) (.tup h2 (t2.ext (fun _ h => .inl h) (Ext.refl H)))
        · subst z2
          cases t2
          rw [List.append_nil] at q
          exact q _ H (Ext.refl H) (.tup h (t.ext (fun _ h => .inl h) (Ext.refl H)))
        · exact q _ _ (Ext.upd np) (.tup (.inl (.inl upd_same)) ((t.app t2).ext (fun _ h => .inl h) (Ext.upd np)))
      · cases e
    | _ => simp [catT] at e
  | _ => cases ry <;> simp [catT] at e
/-- + -/
def rAddD (K : PySem.W.Frag) : R2 := fun x y H Q => (rI0 fun i j => V.int (i + j)) x y H Q ∨ (rAddS x y H Q ∨ (rCatL K x y H Q ∨ rCatA K x y H Q))
theorem op_addD : OpR X (binaryOp .Add) (rAddD X.K) := op_add.or (op_add_str.or (op_catL.or op_catA))
def addD (a b : PyData) : Option PyData := match a, b with
  | .int i, .int j => some (.int (i + j))
  | .str i, .str j => if i.length + j.length ≤ 16777216 then some (.str (i ++ j)) else none
  | .list xs, .list ys => if xs.length + ys.length ≤ 16777216 then some (.list (xs ++ ys)) else none
  | .tuple xs, .tuple ys => if xs.length + ys.length ≤ 16777216 then some (.tuple (xs ++ ys)) else none
  | _, _ => none
theorem op2_addD {K : PySem.W.Frag} : Op2 K (rAddD K) addD := by
  have h : Op2 K (rAddD K) (fun a b => (i2 (fun _ _ => true) (fun i j => i + j) a b).or ((addS a b).or (((catLF a b).map .list).or (catT a b)))) := op2_i20.or (op2_addS.or (op2F_catL.op2.or op2_catT))
  have e : addD = (fun a b => (i2 (fun _ _ => true) (fun i j => i + j) a b).or ((addS a b).or (((catLF a b).map .list).or (catT a b)))) := by
    funext a b
    cases a <;> cases b <;> simp [addD, i2, addS, catLF, catT] <;> split <;> simp_all
  rw [e]
  exact h
def subD : PyData → PyData → Option PyData := i2 (fun _ _ => true) fun i j => i - j
theorem op2_subD {K : PySem.W.Frag} : Op2 K (rI0 fun i j => .int (i - j)) subD := op2_i20
/-! * of a list, of a tuple -/
def rRepL (K : PySem.W.Frag) : R2 := fun x y H Q => ∃ l k xs, x = .ref l ∧ y = .int k ∧ SqL K H l xs ∧ -(2 ^ 63) ≤ k ∧ k < 2 ^ 63 ∧ xs.length * k.toNat ≤ sizeLine ∧ ∀ p, H p = none → Q (.ref p) (upd H p (.lst (List.replicate k.toNat xs).flatten))
theorem op_repL : OpR X (binaryOp .Mult) (rRepL X.K) := by
  intro pins s σ H x y v u Q I rx ry h
  obtain ⟨l, k, xs, rfl, rfl, hl, h1, h2, hz, q⟩ := h
  cases rx
  obtain ⟨t, rfl⟩ := ry
  obtain ⟨its, r, p, _⟩ := I.list hl
  obtain ⟨⟨cls, dd, data, sl⟩, ho, hc, n, hd⟩ := id p.isList
  simp only at hc hd
  subst hc hd
  have hlen : its.length * k.toNat ≤ 2 ^ 24 := by rw [← r.length]; rw [sizeLine_eq] at hz; exact hz
  have hsz' : its.toArray.size * k.toNat ≤ 2 ^ 24 := by simpa using hlen
  refine wpAny_binaryOp_repeat_ref (T := "list") (U := "int") (by decide) ⟨_, ho, rfl⟩ (fun s' => typeIs_int s' k t) noFill_list_mul F.fills_int_mul F.slot_int_rmul repeat_list F.slot_int_index.lookup
    (call_meets F.slot_int_rmul (typeIs_int s k t) F.entry_int_rmul (F.args_int_rmul_2 _ _) (lm_int_rmul_list_any k t l its.toArray n dd sl)
      ⟨ho, rfl, ⟨_, ho, rfl⟩, call_meets F.slot_list_mul ⟨_, ho, rfl⟩ F.entry_list_mul (F.args_list_mul_2 _ _)
        (lm_list_mul_any l its.toArray n dd sl k t (by simp [Builtin.List.listFitsIndex]; omega) (by omega) (by simp [Builtin.List.listTooLong, sizeLine]; omega))
        ⟨ho, ?_⟩⟩)
  rw [listMul_foldl_if]
  exact ⟨.ref _, _, I.lnew (t' := s.toks) (r.rep k.toNat) (by rw [PyProof.Rows.lm_len_rep_flat, Nat.mul_comm]; exact hz), rfl, q _ I.fresh⟩
def repC {α : Type} (xs : List α) (k : Int) : Bool := decide (-(2 ^ 63) ≤ k) && decide (k < 2 ^ 63) && decide (xs.length * k.toNat ≤ 16777216)
def repLF : PyData → PyData → Option (List PyData)
  | .list xs, .int k => if repC xs k = true then some (List.replicate k.toNat xs).flatten else none
  | _, _ => none
theorem op2F_repL {K : PySem.W.Frag} : Op2F K (rRepL K) repLF := by
  intro S H x y da db es Q rx ry e q
  cases rx with
  | lst h t =>
    cases ry with
    | int k =>
      unfold repLF at e
      dsimp only at e
      split at e
      · rename_i hc
        cases e
        unfold repC at hc
        rw [Bool.and_eq_true, Bool.and_eq_true, decide_eq_true_eq, decide_eq_true_eq, decide_eq_true_eq] at hc
        exact ⟨_, _, _, rfl, rfl, h.sq, hc.1.1, hc.1.2, by rw [sizeLine_eq, t.length]; exact hc.2, fun p np => q p _ np (t.rep _)⟩
      · cases e
    | _ => simp [repLF] at e
  | _ => cases ry <;> simp [repLF] at e
theorem tuple_mul0 (l : Addr) (items : Array Value) (n : Nat) (dd : Option Addr) (sl : Array (Option Value)) (x : Int) (u : Tok) (c0 : (decide (x < -(2 ^ 63)) || decide (x ≥ 2 ^ 63)) = false) (c1 : (items.isEmpty || x == 1) = true) :
    Meets (Builtin.«tuple.__mul__» ⟨[.ref l, .int x u], []⟩) (fun _ R s => s.heap.get? l = some { cls := .type "tuple", dict := dd, data := .seq items n, slots := sl } ∧
      R (.ok (.ret (Value.ref l))) s) :=
  .of_wp fun prog w A R s h => by
    obtain ⟨hp, g, d, tk, os⟩ := s
    obtain ⟨hl, h⟩ := h
    have f1 := AutoSeq1.idx_int
    wp_walk using wpAny_loadPart' hl
    repeat (first
      | (refine wpAny_ite_false (decide_eq_false (by rw [c0]; exact Bool.false_ne_true)) ?_; wp_walk using wpAny_loadPart' hl)
      | (refine wpAny_ite_true (decide_eq_true (by rw [c1])) ?_; wp_walk using wpAny_loadPart' hl))
    exact ⟨_, rfl, h⟩
theorem tuple_mulN (l : Addr) (items : Array Value) (n : Nat) (dd : Option Addr) (sl : Array (Option Value)) (x : Int) (u : Tok) (c0 : (decide (x < -(2 ^ 63)) || decide (x ≥ 2 ^ 63)) = false) (c1 : (items.isEmpty || x == 1) = false) (c2 : (decide (x ≤ 0) || items.isEmpty) = true) :
    Meets (Builtin.«tuple.__mul__» ⟨[.ref l, .int x u], []⟩) (fun _ R s => s.heap.get? l = some { cls := .type "tuple", dict := dd, data := .seq items n, slots := sl } ∧
      R (.ok (.ret (Value.ref s.heap.objs.size))) { s with heap := s.heap.push { cls := Value.type "tuple", data := Data.seq #[] }, toks := s.toks }) :=
  .of_wp fun prog w A R s h => by
    obtain ⟨hp, g, d, tk, os⟩ := s
    obtain ⟨hl, h⟩ := h
    have f1 := AutoSeq1.idx_int
    wp_walk using wpAny_loadPart' hl
    repeat (first
      | (refine wpAny_ite_false (decide_eq_false (by rw [c0]; exact Bool.false_ne_true)) ?_; wp_walk using wpAny_loadPart' hl)
      | (refine wpAny_ite_false (decide_eq_false (by rw [c1]; exact Bool.false_ne_true)) ?_; wp_walk using wpAny_loadPart' hl)
      | (refine wpAny_ite_true (decide_eq_true (by rw [c2])) ?_; wp_walk using wpAny_loadPart' hl)
      | (refine wpAny_ite_false (decide_eq_false (by decide)) ?_; wp_walk using wpAny_loadPart' hl))
    exact ⟨_, rfl, h⟩
def rRepTA (K : PySem.W.Frag) : R2 := fun x y H Q => ∃ l k xs, x = .ref l ∧ y = .int k ∧ SqT K H l xs ∧ -(2 ^ 63) ≤ k ∧ k < 2 ^ 63 ∧ xs.length * k.toNat ≤ sizeLine ∧
  ((xs = [] ∨ k = 1) → Q (.ref l) H) ∧ (¬ (xs = [] ∨ k = 1) → ∀ p, H p = none → Q (.ref p) (upd H p (.tup (List.replicate k.toNat xs).flatten)))
theorem op_repTA : OpR X (binaryOp .Mult) (rRepTA X.K) := by
  intro pins s σ H x y v u Q I rx ry h
  obtain ⟨l, k, xs, rfl, rfl, hT, h1, h2, hz, q1, q2⟩ := h
  cases rx
  obtain ⟨t, rfl⟩ := ry
  obtain ⟨its, r, ⟨⟨cls, dd, data, sl⟩, ho, hc, n, hd⟩, hs⟩ := I.tuple hT
  simp only at hc hd
  subst hc hd
  have hle : its.length = xs.length := r.length.symm
  have c0 : (decide (k < -(2 ^ 63)) || decide (k ≥ 2 ^ 63)) = false := by
    rw [decide_eq_false (by omega), decide_eq_false (by omega)] <;> rfl
  have he : its.toArray.isEmpty = xs.isEmpty := by
    cases r <;> rfl
  refine wpAny_binaryOp_repeat_ref (T := "tuple") (U := "int") (by decide) ⟨_, ho, rfl⟩ (fun s' => typeIs_int s' k t) noFill_tuple_mul F.fills_int_mul F.slot_int_rmul repeat_tuple F.slot_int_index.lookup
    (call_meets F.slot_int_rmul (typeIs_int s k t) F.entry_int_rmul (F.args_int_rmul_2 _ _) (int_rmul_tuple k t l its.toArray n dd sl) ⟨ho, rfl, ⟨_, ho, rfl⟩, ?_⟩)
  by_cases hc : xs = [] ∨ k = 1
  · have c1 : (its.toArray.isEmpty || k == 1) = true := by
      rw [he, Bool.or_eq_true]
      rcases hc with e | e
      · exact .inl (by rw [e]; rfl)
      · exact .inr (by rw [e]; rfl)
    exact call_meets F.slot_tuple_mul ⟨_, ho, rfl⟩ F.entry_tuple_mul (F.args_tuple_mul_2 _ _) (tuple_mul0 l its.toArray n dd sl k t c0 c1) ⟨ho, .ref l, H, I, rfl, q1 hc⟩
  · have hne : xs ≠ [] := fun e => hc (.inl e)
    have hi : its.toArray.isEmpty = false := by
      rw [he]
      cases xs with
      | nil => exact absurd rfl hne
      | cons a b => rfl
    have c1 : (its.toArray.isEmpty || k == 1) = false := by
      rw [hi, Bool.false_or]
      exact beq_eq_false_iff_ne.mpr fun e => hc (.inr e)
    have out : ∀ {o : Obj}, (∃ its2, Vals (List.replicate k.toNat xs).flatten its2 ∧ IsTup (s.heap.push o) s.heap.objs.size its2.toArray) → EP X pins σ Q (.ref s.heap.objs.size) { s with heap := s.heap.push o } := fun {o} ⟨its2, r2, h2⟩ =>
      ⟨.ref s.heap.objs.size, _, I.laid (t' := s.toks) (o := .tup (List.replicate k.toNat xs).flatten) (fun b ob q => Heap.get?_push_of_some _ q) (Nat.le_refl _)
        ⟨by rw [PyProof.Rows.lm_len_rep_flat, Nat.mul_comm]; exact hz, its2, r2, h2⟩, rfl, q2 hc _ (I.hok.fresh (Nat.le_refl _))⟩
    by_cases hk : k ≤ 0
    · have c2 : (decide (k ≤ 0) || its.toArray.isEmpty) = true := by rw [decide_eq_true hk]; rfl
      refine call_meets F.slot_tuple_mul ⟨_, ho, rfl⟩ F.entry_tuple_mul (F.args_tuple_mul_2 _ _) (tuple_mulN l its.toArray n dd sl k t c0 c1 c2) ⟨ho, ?_⟩
      have ek : k.toNat = 0 := by omega
      exact out ⟨[], by rw [ek]; exact .nil, IsTup.new _ _⟩
    · have c2 : (decide (k ≤ 0) || its.toArray.isEmpty) = false := by
        rw [hi, Bool.or_false]
        exact decide_eq_false hk
      have hm : ((its.toArray.size : Nat) : Int) * k ≤ 16777216 := by
        rw [List.size_toArray, hle]
        rw [sizeLine_eq] at hz
        have e1 : (k.toNat : Int) = k := by omega
        have : ((xs.length * k.toNat : Nat) : Int) ≤ 16777216 := Int.ofNat_le.mpr hz
        rw [Int.natCast_mul, e1] at this
        exact this
      have flen : (List.replicate k.toNat its).flatten.length ≤ sizeLine := by
        rw [PyProof.Rows.lm_len_rep_flat, hle, Nat.mul_comm]
        exact hz
      have c4 : Builtin.Tuple.tupleTooMany (((its.toArray.size : Nat) : Int) * k) = false := by
        unfold Builtin.Tuple.tupleTooMany
        rw [sizeLine_eq]
        exact decide_eq_false (by omega)
      refine call_meets F.slot_tuple_mul ⟨_, ho, rfl⟩ F.entry_tuple_mul (F.args_tuple_mul_2 _ _) (tuple_mulW l its.toArray n dd sl k t c0 c1 c2 (by omega) c4 (by rw [size_rep, List.size_toArray]; exact flen)) ⟨ho, ?_⟩
      rw [size_rep]
      exact out ⟨_, r.rep k.toNat, IsTup.new _ _⟩
def repT : PyData → PyData → Option PyData
  | .tuple xs, .int k => if repC xs k = true then some (.tuple (List.replicate k.toNat xs).flatten) else none
  | _, _ => none
theorem op2_repT {K : PySem.W.Frag} : Op2 K (rRepTA K) repT := by
  intro S H x y da db d Q rx ry e q
  cases rx with
  | @tup a xs ds h t =>
    cases ry with
    | int k =>
      unfold repT at e
      dsimp only at e
      split at e
      · rename_i hc
        cases e
        unfold repC at hc
        rw [Bool.and_eq_true, Bool.and_eq_true, decide_eq_true_eq, decide_eq_true_eq, decide_eq_true_eq] at hc
        refine ⟨a, k, xs, rfl, rfl, h, hc.1.1, hc.1.2, by rw [sizeLine_eq, t.length]; exact hc.2, fun z => ?_, fun z p np => ?_⟩
        · refine q _ H (Ext.refl H) ?_
          rcases z with z | z
          · subst z
            cases t
            have e0 : (List.replicate k.toNat ([] : List PyData)).flatten = [] := by simp
            rw [e0]
            exact .tup h .nil
          · subst z
            have e0 : (List.replicate (1 : Int).toNat ds).flatten = ds := by
              show (List.replicate 1 ds).flatten = ds
              simp
            rw [e0]
            exact .tup h (t.ext (fun _ h => .inl h) (Ext.refl H))
        · exact q _ _ (Ext.upd np) (.tup (.inl (.inl upd_same)) ((t.rep _).ext (fun _ h => .inl h) (Ext.upd np)))
      · cases e
    | _ => simp [repT] at e
  | _ => cases ry <;> simp [repT] at e
def rMulD (K : PySem.W.Frag) : R2 := fun x y H Q => rMulI x y H Q ∨ (rRepL K x y H Q ∨ rRepTA K x y H Q)
theorem op_mulD : OpR X (binaryOp .Mult) (rMulD X.K) := op_mulI.or (op_repL.or op_repTA)
def mulD (a b : PyData) : Option PyData := match a, b with
  | .int i, .int j => if mulC i j = true then some (.int (i * j)) else none
  | .list xs, .int k => if repC xs k = true then some (.list (List.replicate k.toNat xs).flatten) else none
  | .tuple xs, .int k => if repC xs k = true then some (.tuple (List.replicate k.toNat xs).flatten) else none
  | _, _ => none
theorem op2_mulD {K : PySem.W.Frag} : Op2 K (rMulD K) mulD := by
  have h : Op2 K (rMulD K) (fun a b => (i2 mulC (fun i j => i * j) a b).or (((repLF a b).map .list).or (repT a b))) := op2_mulI.or (op2F_repL.op2.or op2_repT)
  have e : mulD = (fun a b => (i2 mulC (fun i j => i * j) a b).or (((repLF a b).map .list).or (repT a b))) := by
    funext a b
    cases a <;> cases b <;> simp [mulD, i2, repLF, repT] <;> split <;> simp_all
  rw [e]
  exact h
/-! ### comparisons -/
theorem dp_plain {K : PySem.W.Frag} {H : Hp} : ∀ {v d}, Dp K H v d → d.plain = true := fun {v d} h => by
  refine Dp.rec (motive_1 := fun v d _ => d.plain = true) (motive_2 := fun v d _ => PyData.plainAll d = true) ?_ ?_ ?_ ?_ ?_ ?_ ?_ ?_ h
  all_goals (intros; simp_all [PyData.plain, PyData.plainAll])
def eqD (a b : PyData) : Option Bool := if min a.depth b.depth ≤ 60 then some (PyData.eqv a b) else none
def neD (a b : PyData) : Option Bool := if min a.depth b.depth ≤ 60 then some (!PyData.eqv a b) else none
def rEqP (K : PySem.W.Frag) : R2 := fun x y H Q => ∃ d e, Dp K H x d ∧ Dp K H y e ∧ min d.depth e.depth ≤ 60 ∧ Q (.bl (PyData.eqv d e)) H
def rNeP (K : PySem.W.Frag) : R2 := fun x y H Q => ∃ d e, Dp K H x d ∧ Dp K H y e ∧ min d.depth e.depth ≤ 60 ∧ Q (.bl (!PyData.eqv d e)) H
theorem op_eqP (hu : X.A.units + 64 < cLine) : OpR X (compareOp .Eq) (rEqP X.K) := by
  intro pins s σ H x y v u Q I rx ry h
  obtain ⟨d, e, hd, he, hm, q⟩ := h
  obtain ⟨as, r1⟩ := Dp.reads I d x v hd rx
  obtain ⟨bs, r2⟩ := Dp.reads I e y u he ry
  exact PySem.SeqAt.eq_plain r1 r2 (dp_plain hd) (dp_plain he) (by omega) ⟨.bl _, H, I, rfl, q⟩
theorem op_neP (hu : X.A.units + 64 < cLine) : OpR X (compareOp .NotEq) (rNeP X.K) := by
  intro pins s σ H x y v u Q I rx ry h
  obtain ⟨d, e, hd, he, hm, q⟩ := h
  obtain ⟨as, r1⟩ := Dp.reads I d x v hd rx
  obtain ⟨bs, r2⟩ := Dp.reads I e y u he ry
  exact PySem.SeqAt.ne_plain r1 r2 (dp_plain hd) (dp_plain he) (by omega) ⟨.bl _, H, I, rfl, q⟩
theorem cm_eq {K : PySem.W.Frag} : Cm2 K (rEqP K) eqD := by
  intro H x y da db c Q rx ry e q
  unfold eqD at e
  split at e
  · cases e; exact ⟨da, db, rx, ry, by assumption, q⟩
  · cases e
theorem cm_ne {K : PySem.W.Frag} : Cm2 K (rNeP K) neD := by
  intro H x y da db c Q rx ry e q
  unfold neD at e
  split at e
  · cases e; exact ⟨da, db, rx, ry, by assumption, q⟩
  · cases e
end
end BD
namespace BD
open PySem PySem.Spec PyProof.Rows L2
open PySem (sizeLine_eq)
section
variable {X : Cx} {K : PySem.W.Frag}
/-! ### order -/
def okC (a b : PyData) : Bool := PySem.W.alike a b && (match a with | .none => false | _ => true) && decide (min a.depth b.depth ≤ 60)
def ltD (a b : PyData) : Option Bool := match a, b with
  | .int i, .int j => some (decide (i < j))
  | a, b => if okC a b = true then some (PySem.W.dataLt a b) else none
def gtD (a b : PyData) : Option Bool := match a, b with
  | .int i, .int j => some (decide (j < i))
  | a, b => if okC a b = true then some (PySem.W.dataLt b a) else none
def leD (a b : PyData) : Option Bool := match a, b with
  | .int i, .int j => some (decide (i ≤ j))
  | a, b => if okC a b = true then some (!PySem.W.dataLt b a) else none
def geD (a b : PyData) : Option Bool := match a, b with
  | .int i, .int j => some (decide (j ≤ i))
  | a, b => if okC a b = true then some (!PySem.W.dataLt a b) else none
theorem okC_of {a b : PyData} (h : okC a b = true) : PySem.W.alike a b = true ∧ a ≠ .none ∧ min a.depth b.depth ≤ 60 := by
  unfold okC at h
  rw [Bool.and_eq_true, Bool.and_eq_true, decide_eq_true_eq] at h
  refine ⟨h.1.1, ?_, h.2⟩
  rintro rfl
  exact absurd h.1.2 (by simp)
def rOrd (g : Int → Int → Bool) (f : PyData → PyData → Bool) (K : PySem.W.Frag) : R2 := fun x y H Q => (rI0 fun i j => V.bl (g i j)) x y H Q ∨ ∃ d e, Dp K H x d ∧ Dp K H y e ∧ okC d e = true ∧ Q (.bl (f d e)) H
theorem or_ord {op : CmpOp} {g : Int → Int → Bool} {f : PyData → PyData → Bool} (h0 : OpR X (compareOp op) (rI0 fun i j => V.bl (g i j)))
    (hh : ∀ {pins : List (Addr × Obj)} {σ : L2.St} {H : Hp} {s : Shared} {v u : Value} {Q : VK} {d e : PyData} {as bs : List Addr}, L2.Inv X pins σ H s → Reads s.heap v d as → Reads s.heap u e bs → okC d e = true → EP X pins σ Q (.bool (f d e)) s → wpAny (model X.prog X.w) X.A (compareOp op v u) (EP X pins σ Q) X.xe s) : OpR X (compareOp op) (rOrd g f X.K) := by
  intro pins s σ H x y v u Q I rx ry h
  rcases h with h | ⟨d, e, hd, he, ok, q⟩
  · exact h0 pins s σ H x y v u Q I rx ry h
  · obtain ⟨as, r1⟩ := Dp.reads I d x v hd rx
    obtain ⟨bs, r2⟩ := Dp.reads I e y u he ry
    exact hh I r1 r2 ok ⟨.bl _, H, I, rfl, q⟩
theorem op_ltD (hu : X.A.units + 64 < cLine) : OpR X (compareOp .Lt) (rOrd (fun i j => decide (i < j)) PySem.W.dataLt X.K) := or_ord op_lt fun I r1 r2 ok q => by
  obtain ⟨h1, h2, h3⟩ := okC_of ok
  exact PySem.W.lt_data r1 r2 h1 h2 (by omega) q
theorem op_gtD (hu : X.A.units + 64 < cLine) : OpR X (compareOp .Gt) (rOrd (fun i j => decide (j < i)) (fun a b => PySem.W.dataLt b a) X.K) := or_ord op_gt fun I r1 r2 ok q => by
  obtain ⟨h1, h2, h3⟩ := okC_of ok
  exact PySem.W.gt_data r1 r2 h1 h2 (by omega) q
theorem op_leD (hu : X.A.units + 64 < cLine) : OpR X (compareOp .LtE) (rOrd (fun i j => decide (i ≤ j)) (fun a b => !PySem.W.dataLt b a) X.K) := or_ord op_le fun I r1 r2 ok q => by
  obtain ⟨h1, h2, h3⟩ := okC_of ok
  exact PySem.W.le_data r1 r2 h1 h2 (by omega) q
theorem op_geD (hu : X.A.units + 64 < cLine) : OpR X (compareOp .GtE) (rOrd (fun i j => decide (j ≤ i)) (fun a b => !PySem.W.dataLt a b) X.K) := or_ord op_ge fun I r1 r2 ok q => by
  obtain ⟨h1, h2, h3⟩ := okC_of ok
  exact PySem.W.ge_data r1 r2 h1 h2 (by omega) q
theorem cm_ord {g : Int → Int → Bool} {f : PyData → PyData → Bool} {F : PyData → PyData → Option Bool} (hi : ∀ i j, F (.int i) (.int j) = some (g i j)) (ho : ∀ a b c, F a b = some c → (∃ i j, a = .int i ∧ b = .int j) ∨ (okC a b = true ∧ c = f a b)) : Cm2 K (rOrd g f K) F := by
  intro H x y da db c Q rx ry e q
  rcases ho da db c e with ⟨i, j, rfl, rfl⟩ | ⟨h1, rfl⟩
  · rw [hi] at e
    cases e
    cases rx
    cases ry
    exact .inl ⟨i, j, rfl, rfl, q⟩
  · exact .inr ⟨da, db, rx, ry, h1, q⟩
theorem cm_lt : Cm2 K (rOrd (fun i j => decide (i < j)) PySem.W.dataLt K) ltD := cm_ord (fun _ _ => rfl) fun a b c e => by
  unfold ltD at e
  split at e
  · exact .inl ⟨_, _, rfl, rfl⟩
  · split at e
    · cases e; exact .inr ⟨by assumption, rfl⟩
    · cases e
theorem cm_gt : Cm2 K (rOrd (fun i j => decide (j < i)) (fun a b => PySem.W.dataLt b a) K) gtD := cm_ord (fun _ _ => rfl) fun a b c e => by
  unfold gtD at e
  split at e
  · exact .inl ⟨_, _, rfl, rfl⟩
  · split at e
    · cases e; exact .inr ⟨by assumption, rfl⟩
    · cases e
theorem cm_le : Cm2 K (rOrd (fun i j => decide (i ≤ j)) (fun a b => !PySem.W.dataLt b a) K) leD := cm_ord (fun _ _ => rfl) fun a b c e => by
  unfold leD at e
  split at e
  · exact .inl ⟨_, _, rfl, rfl⟩
  · split at e
    · cases e; exact .inr ⟨by assumption, rfl⟩
    · cases e
theorem cm_ge : Cm2 K (rOrd (fun i j => decide (j ≤ i)) (fun a b => !PySem.W.dataLt a b) K) geD := cm_ord (fun _ _ => rfl) fun a b c e => by
  unfold geD at e
  split at e
  · exact .inl ⟨_, _, rfl, rfl⟩
  · split at e
    · cases e; exact .inr ⟨by assumption, rfl⟩
    · cases e
/-! ### in -/
def inD (a b : PyData) : Option Bool := match b with
  | .list xs => if min (PyData.depthAll xs) a.depth ≤ 60 then some (xs.any fun y => PyData.eqv y a) else none
  | .tuple xs => if min (PyData.depthAll xs) a.depth ≤ 60 then some (xs.any fun y => PyData.eqv y a) else none
  | .str z => match a with
    | .str y => some (!(Builtin.Str.occurrences z y 0 z.length 1).isEmpty)
    | _ => none
  | _ => none
def niD (a b : PyData) : Option Bool := (inD a b).map not
def rInL (neg : Bool) (K : PySem.W.Frag) : R2 := fun x y H Q => ∃ d e c, Dp K H x d ∧ Dp K H y e ∧ inD d e = some c ∧ Q (.bl (if neg then !c else c)) H
theorem op_inDD (hu : X.A.units + 64 < cLine) : OpR X (compareOp .In) (rInL false X.K) := by
  intro pins s σ H x y v u Q I rx ry h
  obtain ⟨d, e, c, hd, he, hc, q⟩ := h
  obtain ⟨as, r1⟩ := Dp.reads I d x v hd rx
  obtain ⟨bs, r2⟩ := Dp.reads I e y u he ry
  cases e with
  | list xs =>
    unfold inD at hc
    dsimp only at hc
    split at hc
    · cases hc
      exact PySem.SeqAt.in_list_data r2 r1 (by have := dp_plain he; simpa [PyData.plain] using this) (dp_plain hd) (by omega) ⟨.bl _, H, I, rfl, q⟩
    · cases hc
  | tuple xs =>
    unfold inD at hc
    dsimp only at hc
    split at hc
    · cases hc
      exact PySem.SeqAt.in_tuple_data r2 r1 (by have := dp_plain he; simpa [PyData.plain] using this) (dp_plain hd) (by omega) ⟨.bl _, H, I, rfl, q⟩
    · cases hc
  | str z =>
    cases d with
    | str y' =>
      cases he
      cases hd
      unfold inD at hc
      cases hc
      exact op_in_str pins s σ H _ _ v u Q I rx ry ⟨_, _, rfl, rfl, q⟩
    | _ => simp [inD] at hc
  | _ => simp [inD] at hc
theorem op_niDD (hu : X.A.units + 64 < cLine) : OpR X (compareOp .NotIn) (rInL true X.K) := by
  intro pins s σ H x y v u Q I rx ry h
  obtain ⟨d, e, c, hd, he, hc, q⟩ := h
  obtain ⟨as, r1⟩ := Dp.reads I d x v hd rx
  obtain ⟨bs, r2⟩ := Dp.reads I e y u he ry
  cases e with
  | list xs =>
    unfold inD at hc
    dsimp only at hc
    split at hc
    · cases hc
      exact PySem.SeqAt.notIn_list_data r2 r1 (by have := dp_plain he; simpa [PyData.plain] using this) (dp_plain hd) (by omega) ⟨.bl _, H, I, rfl, q⟩
    · cases hc
  | tuple xs =>
    unfold inD at hc
    dsimp only at hc
    split at hc
    · cases hc
      exact PySem.SeqAt.notIn_tuple_data r2 r1 (by have := dp_plain he; simpa [PyData.plain] using this) (dp_plain hd) (by omega) ⟨.bl _, H, I, rfl, q⟩
    · cases hc
  | str z =>
    cases d with
    | str y' =>
      cases he
      cases hd
      unfold inD at hc
      cases hc
      exact op_notin_str pins s σ H _ _ v u Q I rx ry ⟨_, _, rfl, rfl, q⟩
    | _ => simp [inD] at hc
  | _ => simp [inD] at hc
theorem cm_in : Cm2 K (rInL false K) inD := fun H x y da db c Q rx ry e q => ⟨da, db, c, rx, ry, e, q⟩
theorem cm_ni : Cm2 K (rInL true K) niD := fun H x y da db c Q rx ry e q => by
  unfold niD at e
  cases e1 : inD da db with
  | none => rw [e1] at e; cases e
  | some k =>
    rw [e1] at e
    cases e
    exact ⟨da, db, k, rx, ry, e1, q⟩
/-! ### is None -/
def isNo : PyData → Bool
  | .none => true
  | _ => false
def isD (a b : PyData) : Option Bool := match b with
  | .none => some (isNo a)
  | .bool k => match a with
    | .bool j => some (decide (j = k))
    | _ => none
  | _ => none
def ntD (a b : PyData) : Option Bool := (isD a b).map not
theorem dp_no {H : Hp} {x : V} {d : PyData} (h : Dp K H x d) : decide (x = .non) = isNo d := by
  cases h <;> simp [isNo]
def rIsD : R2 := fun x y H Q => (y = .non ∧ Q (.bl (decide (x = .non))) H) ∨ ∃ a b, x = .bl a ∧ y = .bl b ∧ Q (.bl (decide (a = b))) H
theorem op_isD : OpR X (compareOp .Is) rIsD := op_isN.or op_is_bl
def rNtD : R2 := fun x y H Q => (y = .non ∧ Q (.bl (!decide (x = .non))) H) ∨ ∃ a b, x = .bl a ∧ y = .bl b ∧ Q (.bl (!decide (a = b))) H
theorem op_ntD : OpR X (compareOp .IsNot) rNtD := op_notN.or op_isnot_bl
theorem cm_is : Cm2 K rIsD isD := fun H x y da db c Q rx ry e q => by
  cases ry with
  | non =>
    have : c = isNo da := by simpa [isD] using e.symm
    subst this
    exact .inl ⟨rfl, by rw [dp_no rx]; exact q⟩
  | bl b =>
    cases rx with
    | bl a =>
      have : c = decide (a = b) := by simpa [isD] using e.symm
      subst this
      exact .inr ⟨a, b, rfl, rfl, q⟩
    | _ => simp [isD] at e
  | _ => simp [isD] at e
theorem cm_nt : Cm2 K rNtD ntD := fun H x y da db c Q rx ry e q => by
  unfold ntD at e
  cases ry with
  | non =>
    have : c = !isNo da := by simpa [isD] using e.symm
    subst this
    exact .inl ⟨rfl, by rw [dp_no rx]; exact q⟩
  | bl b =>
    cases rx with
    | bl a =>
      have : c = !decide (a = b) := by simpa [isD] using e.symm
      subst this
      exact .inr ⟨a, b, rfl, rfl, q⟩
    | _ => simp [isD] at e
  | _ => simp [isD] at e
/-! ### len, abs, int, bool, max, min -/
def lenD : List PyData → Option PyData
  | [.list xs] => some (.int xs.length)
  | [.tuple xs] => some (.int xs.length)
  | [.str z] => if z.length ≤ 16777216 then some (.int z.length) else none
  | _ => none
def rLenD (K : PySem.W.Frag) : List V → Hp → VK → Prop := fun xs H Q => (∃ p ys, xs = [.ref p] ∧ (SqL K H p ys ∨ SqT K H p ys) ∧ Q (.int ys.length) H) ∨ ∃ z, xs = [.str z] ∧ z.length ≤ sizeLine ∧ Q (.int z.length) H
theorem call_lenDD : CallR X (.builtin "len") (rLenD X.K) := call_len_seq.or call_len_str
theorem opN_len : OpN K (rLenD K) lenD := by
  intro S H xs ds d Q r e q
  cases r with
  | nil => simp [lenD] at e
  | cons r0 r1 =>
    cases r1 with
    | cons _ _ => rename_i d0 _ _ _ _ _ _; cases d0 <;> simp [lenD] at e
    | nil =>
      cases r0 with
      | lst h t => cases e; exact .inl ⟨_, _, rfl, .inl h.sq, by rw [t.length]; exact q _ H (Ext.refl H) (.int _)⟩
      | tup h t => cases e; exact .inl ⟨_, _, rfl, .inr h, by rw [t.length]; exact q _ H (Ext.refl H) (.int _)⟩
      | str z =>
        unfold lenD at e
        dsimp only at e
        split at e
        · cases e; exact .inr ⟨z, rfl, by rw [sizeLine_eq]; assumption, q _ H (Ext.refl H) (.int _)⟩
        · cases e
      | _ => simp [lenD] at e
def absD : List PyData → Option PyData
  | [.int i] => some (.int (if i < 0 then -i else i))
  | _ => none
theorem rpa1 {S H} {xs : List V} {d : PyData} (r : RpA K S H xs [d]) : ∃ v, xs = [v] ∧ Rp K S H v d := by
  cases r with
  | cons r0 r1 => cases r1; exact ⟨_, rfl, r0⟩
theorem rpa2 {S H} {xs : List V} {d d2 : PyData} (r : RpA K S H xs [d, d2]) : ∃ v v2, xs = [v, v2] ∧ Rp K S H v d ∧ Rp K S H v2 d2 := by
  cases r with
  | cons r0 r1 =>
    cases r1 with
    | cons r1 r2 => cases r2; exact ⟨_, _, rfl, r0, r1⟩
theorem opN_abs : OpN K (fun xs H Q => ∃ i, xs = [.int i] ∧ Q (.int (if i < 0 then -i else i)) H) absD := by
  intro S H xs ds d Q r e q
  unfold absD at e
  split at e
  · cases e
    obtain ⟨v, rfl, r1⟩ := rpa1 r
    cases r1
    exact ⟨_, rfl, q _ H (Ext.refl H) (.int _)⟩
  · cases e
def intD : List PyData → Option PyData
  | [.int i] => some (.int i)
  | [.bool k] => some (.int (if k then 1 else 0))
  | _ => none
theorem opN_int : OpN K (fun xs H Q => (∃ i, xs = [.int i] ∧ Q (.int i) H) ∨ ∃ k, xs = [.bl k] ∧ Q (.int (if k then 1 else 0)) H) intD := by
  intro S H xs ds d Q r e q
  unfold intD at e
  split at e
  · cases e
    obtain ⟨v, rfl, r1⟩ := rpa1 r
    cases r1
    exact .inl ⟨_, rfl, q _ H (Ext.refl H) (.int _)⟩
  · cases e
    obtain ⟨v, rfl, r1⟩ := rpa1 r
    cases r1
    exact .inr ⟨_, rfl, q _ H (Ext.refl H) (.int _)⟩
  · cases e
def max2D : List PyData → Option PyData
  | [.int i, .int j] => some (.int (if j > i then j else i))
  | _ => none
def min2D : List PyData → Option PyData
  | [.int i, .int j] => some (.int (if j < i then j else i))
  | _ => none
theorem opN_max2 : OpN K (fun xs H Q => ∃ i j, xs = [.int i, .int j] ∧ Q (.int (if j > i then j else i)) H) max2D := by
  intro S H xs ds d Q r e q
  unfold max2D at e
  split at e
  · cases e
    obtain ⟨v, v2, rfl, r1, r2⟩ := rpa2 r
    cases r1
    cases r2
    exact ⟨_, _, rfl, q _ H (Ext.refl H) (.int _)⟩
  · cases e
theorem opN_min2 : OpN K (fun xs H Q => ∃ i j, xs = [.int i, .int j] ∧ Q (.int (if j < i then j else i)) H) min2D := by
  intro S H xs ds d Q r e q
  unfold min2D at e
  split at e
  · cases e
    obtain ⟨v, v2, rfl, r1, r2⟩ := rpa2 r
    cases r1
    cases r2
    exact ⟨_, _, rfl, q _ H (Ext.refl H) (.int _)⟩
  · cases e
/-! ### list, tuple -/
def listF : List PyData → Option (List PyData)
  | [.list xs] => some xs
  | [.tuple xs] => some xs
  | _ => none
theorem opF_list : OpF K (fun xs H Q => ∃ p ys, xs = [.ref p] ∧ (SqL K H p ys ∨ SqT K H p ys) ∧ ∀ l, H l = none → Q (.ref l) (upd H l (.lst ys))) listF := by
  intro S H xs ds es Q r e q
  unfold listF at e
  split at e
  · cases e
    obtain ⟨v, rfl, r1⟩ := rpa1 r
    cases r1 with
    | lst h t => exact ⟨_, _, rfl, .inl h.sq, fun l nl => q l _ nl t⟩
  · cases e
    obtain ⟨v, rfl, r1⟩ := rpa1 r
    cases r1 with
    | tup h t => exact ⟨_, _, rfl, .inr h, fun l nl => q l _ nl t⟩
  · cases e
theorem OpF.opN {r : List V → Hp → VK → Prop} {f : List PyData → Option (List PyData)} (h : OpF K r f) : OpN K r (fun ds => (f ds).map .list) := by
  intro S H xs ds d Q rs e q
  have e : (f ds).map .list = some d := e
  cases e1 : f ds with
  | none => rw [e1] at e; cases e
  | some es =>
    rw [e1] at e
    cases e
    exact h S H xs ds es Q rs e1 fun p vs np rv => q _ _ (Ext.upd np) (.lst (.inl ⟨.inr np, .inl upd_same⟩) (rv.ext (fun _ h => .inl h) (Ext.upd np)))
def tupD : List PyData → Option PyData
  | [.list xs] => some (.tuple xs)
  | [.tuple xs] => some (.tuple xs)
  | _ => none
theorem opN_tuple : OpN K (fun xs H Q => ∃ p ys, xs = [.ref p] ∧ ((SqL K H p ys ∧ ∀ l, H l = none → Q (.ref l) (upd H l (.tup ys))) ∨ (SqT K H p ys ∧ Q (.ref p) H))) tupD := by
  intro S H xs ds d Q r e q
  unfold tupD at e
  split at e
  · cases e
    obtain ⟨v, rfl, r1⟩ := rpa1 r
    cases r1 with
    | lst h t => exact ⟨_, _, rfl, .inl ⟨h.sq, fun l nl => q _ _ (Ext.upd nl) (.tup (.inl (.inl upd_same)) (t.ext (fun _ h => .inl h) (Ext.upd nl)))⟩⟩
  · cases e
    obtain ⟨v, rfl, r1⟩ := rpa1 r
    cases r1 with
    | tup h t => exact ⟨_, _, rfl, .inr ⟨h, q _ H (Ext.refl H) (.tup h (t.ext (fun _ h => .inl h) (Ext.refl H)))⟩⟩
  · cases e
/-! ### sum, any, all -/
def asI : PyData → Option Int
  | .int i => some i
  | _ => none
def asIs : List PyData → Option (List Int)
  | [] => some []
  | .int i :: r => (asIs r).map (i :: ·)
  | _ :: _ => none
theorem asIs_of : ∀ {ds : List PyData} {ns : List Int}, asIs ds = some ns → ds = ns.map .int
  | [], _, h => by cases h; rfl
  | .int i :: r, ns, h => by
    simp only [asIs, Option.map_eq_some_iff] at h
    obtain ⟨ms, h1, rfl⟩ := h
    rw [asIs_of h1]; rfl
  | .none :: _, _, h => by simp [asIs] at h
  | .bool _ :: _, _, h => by simp [asIs] at h
  | .str _ :: _, _, h => by simp [asIs] at h
  | .list _ :: _, _, h => by simp [asIs] at h
  | .tuple _ :: _, _, h => by simp [asIs] at h
  | .dict _ :: _, _, h => by simp [asIs] at h
@[simp] theorem asIs_map : ∀ ns : List Int, asIs (ns.map .int) = some ns
  | [] => rfl
  | n :: r => by simp [asIs, asIs_map r]
theorem rpa_ints {S H} : ∀ {vs : List V} {ns : List Int}, RpA K S H vs (ns.map .int) → vs = ns.map V.int
  | _, [], h => by cases h; rfl
  | _, n :: r, h => by
    cases h with
    | cons h1 h2 =>
      cases h1
      rw [rpa_ints h2]; rfl
def asBs : List PyData → Option (List Bool)
  | [] => some []
  | .bool i :: r => (asBs r).map (i :: ·)
  | _ :: _ => none
theorem asBs_of : ∀ {ds : List PyData} {ns : List Bool}, asBs ds = some ns → ds = ns.map .bool
  | [], _, h => by cases h; rfl
  | .bool i :: r, ns, h => by
    simp only [asBs, Option.map_eq_some_iff] at h
    obtain ⟨ms, h1, rfl⟩ := h
    rw [asBs_of h1]; rfl
  | .none :: _, _, h => by simp [asBs] at h
  | .int _ :: _, _, h => by simp [asBs] at h
  | .str _ :: _, _, h => by simp [asBs] at h
  | .list _ :: _, _, h => by simp [asBs] at h
  | .tuple _ :: _, _, h => by simp [asBs] at h
  | .dict _ :: _, _, h => by simp [asBs] at h
@[simp] theorem asBs_map : ∀ ns : List Bool, asBs (ns.map .bool) = some ns
  | [] => rfl
  | n :: r => by simp [asBs, asBs_map r]
theorem rpa_bools {S H} : ∀ {vs : List V} {ns : List Bool}, RpA K S H vs (ns.map .bool) → vs = ns.map V.bl
  | _, [], h => by cases h; rfl
  | _, n :: r, h => by
    cases h with
    | cons h1 h2 =>
      cases h1
      rw [rpa_bools h2]; rfl
def sumD : List PyData → Option PyData
  | [.list xs] => (asIs xs).map fun ns => .int ns.sum
  | _ => none
theorem opN_sum : OpN K (rSum K) sumD := by
  intro S H xs ds d Q r e q
  unfold sumD at e
  split at e
  · rw [Option.map_eq_some_iff] at e
    obtain ⟨ns, e1, rfl⟩ := e
    obtain ⟨v, rfl, r1⟩ := rpa1 r
    cases r1 with
    | lst h t =>
      rw [asIs_of e1] at t
      have := rpa_ints t
      subst this
      exact ⟨_, ns, rfl, h.sq, q _ H (Ext.refl H) (.int _)⟩
  · cases e
def anyD : List PyData → Option PyData
  | [.list xs] => (asBs xs).map fun ns => .bool (ns.any id)
  | _ => none
def allD : List PyData → Option PyData
  | [.list xs] => (asBs xs).map fun ns => .bool (ns.all id)
  | _ => none
theorem opN_any : OpN K (rAny K) anyD := by
  intro S H xs ds d Q r e q
  unfold anyD at e
  split at e
  · rw [Option.map_eq_some_iff] at e
    obtain ⟨ns, e1, rfl⟩ := e
    obtain ⟨v, rfl, r1⟩ := rpa1 r
    cases r1 with
    | lst h t =>
      rw [asBs_of e1] at t
      have := rpa_bools t
      subst this
      exact ⟨_, ns, rfl, h.sq, q _ H (Ext.refl H) (.bl _)⟩
  · cases e
theorem opN_all : OpN K (rAll K) allD := by
  intro S H xs ds d Q r e q
  unfold allD at e
  split at e
  · rw [Option.map_eq_some_iff] at e
    obtain ⟨ns, e1, rfl⟩ := e
    obtain ⟨v, rfl, r1⟩ := rpa1 r
    cases r1 with
    | lst h t =>
      rw [asBs_of e1] at t
      have := rpa_bools t
      subst this
      exact ⟨_, ns, rfl, h.sq, q _ H (Ext.refl H) (.bl _)⟩
  · cases e
/-! ### repr -/
mutual
/-- a bound on the length of the text -/
def szD : PyData → Nat
  | .none => 4
  | .bool _ => 5
  | .int i => i.natAbs.log2 + 3
  | .str x => (reprText x).length
  | .list xs => szA xs + 2
  | .tuple xs => szA xs + 3
  | .dict _ => 0
def szA : List PyData → Nat
  | [] => 0
  | x :: xs => szD x + 2 + szA xs
end
theorem piled_up : ∀ ts : List Str, (listText ts).length ≤ piled ts + 2
  | [] => by
    show ((("[" : Str)) ++ ("]" : Str)).length ≤ _
    rw [strLen_append]
    exact Nat.le_add_left _ _
  | t :: r => by
    have h := textFrom_length_pos r 1 ((("[" : Str)) ++ (if (0 : Nat) > 0 then ", " else "" : String) ++ t) Nat.one_pos
    have e : (((("[" : Str)) ++ (if (0 : Nat) > 0 then ", " else "" : String) ++ t)).length = 1 + t.length := by
      rw [strLen_append, strLen_append]; rfl
    have l1 : (listText (t :: r)).length = (textFrom 1 ((("[" : Str)) ++ (if (0 : Nat) > 0 then ", " else "" : String) ++ t) r ++ ("]" : Str)).length := rfl
    rw [l1, strLen_append, h, e, piled_cons]
    have : (("]" : Str)).length = 1 := rfl
    omega
theorem join_up (ts : List Str) : (Str.join ", " ts).length ≤ piled ts := by
  by_cases h : ts = []
  · subst h; exact Nat.zero_le _
  · have := join_length_add ts h
    omega
theorem tuple_up (ts : List Str) : (tupleText ts).length ≤ piled ts + 3 := by
  unfold tupleText
  rw [strLen_append, strLen_append]
  have := join_up ts
  have e1 : (("(" : Str)).length = 1 := rfl
  have e2 : (Str.ofString (if ts.length == 1 then ",)" else ")" : String)).length ≤ 2 := by split <;> exact (by decide)
  omega
mutual
theorem shown_le : ∀ d : PyData, d.plain = true → d.shown.length ≤ szD d
  | .none, _ => by simp only [PyData.shown, szD]; decide
  | .bool b, _ => by simp only [PyData.shown, szD]; cases b <;> decide
  | .int i, _ => by
    simp only [PyData.shown, szD]
    have := int_text_length_le (a := i) (k := i.natAbs.log2 + 1) (Nat.succ_pos _) (Nat.lt_succ_self _)
    rw [PySem.ofString_length]
    omega
  | .str x, _ => by simp only [PyData.shown, szD]; exact Nat.le_refl _
  | .list xs, h => by
    simp only [PyData.shown, szD]
    have := shownA_le xs (by simpa [PyData.plain] using h)
    have := piled_up (PyData.shownAll xs)
    omega
  | .tuple xs, h => by
    simp only [PyData.shown, szD]
    have := shownA_le xs (by simpa [PyData.plain] using h)
    have := tuple_up (PyData.shownAll xs)
    omega
  | .dict _, h => by simp [PyData.plain] at h
theorem shownA_le : ∀ xs : List PyData, PyData.plainAll xs = true → piled (PyData.shownAll xs) ≤ szA xs
  | [], _ => by simp [PyData.shownAll, piled, szA]
  | x :: xs, h => by
    rw [PyData.plainAll, Bool.and_eq_true] at h
    have h1 := shown_le x h.1
    have h2 := shownA_le xs h.2
    rw [PyData.shownAll, piled_cons, szA]
    omega
end
mutual
theorem noDict1 : ∀ d : PyData, d.plain = true → d.hasDict = false
  | .none, _ => rfl
  | .bool _, _ => rfl
  | .int _, _ => rfl
  | .str _, _ => rfl
  | .list xs, h => by rw [PyData.hasDict]; exact noDictA xs (by simpa [PyData.plain] using h)
  | .tuple xs, h => by rw [PyData.hasDict]; exact noDictA xs (by simpa [PyData.plain] using h)
  | .dict _, h => by simp [PyData.plain] at h
theorem noDictA : ∀ xs : List PyData, PyData.plainAll xs = true → PyData.hasDictAll xs = false
  | [], _ => rfl
  | x :: xs, h => by
    rw [PyData.plainAll, Bool.and_eq_true] at h
    rw [PyData.hasDictAll, noDict1 x h.1, noDictA xs h.2]; rfl
end
def repOk (d : PyData) : Bool := d.showable && decide (szD d ≤ 16777216) && decide (d.depth ≤ 60)
def reprD : List PyData → Option PyData
  | [d] => if repOk d = true then some (.str d.shown) else none
  | _ => none
def rReprD (K : PySem.W.Frag) : List V → Hp → VK → Prop := fun xs H Q => ∃ x d, xs = [x] ∧ Dp K H x d ∧ repOk d = true ∧ Q (.str d.shown) H
theorem call_reprD (hg : X.A.guards = some []) (hu : X.A.units + 64 < cLine) : CallR X (.builtin "repr") (rReprD X.K) := by
  intro pins s σ H xs us Q I r h
  obtain ⟨x, d, rfl, hd, ok, q⟩ := h
  obtain ⟨u, rfl, rx⟩ := vals1 r
  have pl := dp_plain hd
  unfold repOk at ok
  rw [Bool.and_eq_true, Bool.and_eq_true, decide_eq_true_eq, decide_eq_true_eq] at ok
  obtain ⟨⟨h1, h2⟩, h3⟩ := ok
  have hsz : d.shown.length ≤ sizeLine := by rw [sizeLine_eq]; exact Nat.le_trans (shown_le d pl) h2
  obtain ⟨as, rd⟩ := Dp.reads I d x u hd rx
  have fin : ∀ (h' : Heap) (t : Tok) (tk : Nat), (∀ b o, s.heap.get? b = some o → h'.get? b = some o) → EP X pins σ Q (.str d.shown t) { s with heap := h', toks := tk } := fun h' t tk hk => ⟨.str d.shown, H, I.kept hk, ⟨_, rfl⟩, q⟩
  have big : ∀ a, u = .ref a → wpAny (model X.prog X.w) X.A (call (.builtin "repr") [u]) (EP X pins σ Q) X.xe s := fun a ea => by
    subst ea
    exact repr_of_reads' rd h1 (PyData.noDict_hsm (noDict1 d pl)) hg (by omega) (fun _ _ e => e) (fun h' t tk hk => fin h' t tk hk) hsz
  cases hd with
  | non => cases rx; exact PySem.P.repr_of_none (fin s.heap s.toks _ fun _ _ e => e)
  | bl b => cases rx; exact PySem.P.repr_of_bool (fin s.heap s.toks _ fun _ _ e => e)
  | int i =>
    obtain ⟨t, rfl⟩ := rx
    exact PySem.P.repr_of_int (of_decide_eq_true (by simpa [PyData.showable] using h1)) (fin s.heap s.toks _ fun _ _ e => e)
  | str y =>
    obtain ⟨t, rfl⟩ := rx
    exact PySem.P.repr_of_str (fin s.heap s.toks _ fun _ _ e => e) (by simpa [PyData.shown] using hsz)
  | lst _ _ => exact big _ rx
  | tup _ _ => exact big _ rx
theorem opN_repr : OpN K (rReprD K) reprD := by
  intro S H xs ds d Q r e q
  unfold reprD at e
  split at e
  · split at e
    · cases e
      obtain ⟨v, rfl, r1⟩ := rpa1 r
      exact ⟨v, _, rfl, r1.dp, by assumption, q _ H (Ext.refl H) (.str _)⟩
    · cases e
  · cases e
/-! ### isinstance -/
def tyN : PyData → String
  | .none => "NoneType"
  | .bool _ => "bool"
  | .int _ => "int"
  | .str _ => "str"
  | .list _ => "list"
  | .tuple _ => "tuple"
  | .dict _ => "dict"
def isIn : PyData → Bool
  | .int _ => true
  | .bool _ => true
  | _ => false
def isBo : PyData → Bool
  | .bool _ => true
  | _ => false
def isSt : PyData → Bool
  | .str _ => true
  | _ => false
def isLi : PyData → Bool
  | .list _ => true
  | _ => false
def isTu : PyData → Bool
  | .tuple _ => true
  | _ => false
abbrev KitF (T : String) (f : PyData → Bool) : Prop := ∀ d : PyData, d.plain = true → kitB (tyN d) T = some (f d)
theorem kit_int : KitF "int" isIn := fun d h => by
  cases d with
  | dict _ => simp [PyData.plain] at h
  | none => exact (show kitB "NoneType" "int" = some false by decide +kernel)
  | bool _ => exact (show kitB "bool" "int" = some true by decide +kernel)
  | int _ => exact (show kitB "int" "int" = some true by decide +kernel)
  | str _ => exact (show kitB "str" "int" = some false by decide +kernel)
  | list _ => exact (show kitB "list" "int" = some false by decide +kernel)
  | tuple _ => exact (show kitB "tuple" "int" = some false by decide +kernel)
theorem kit_bool : KitF "bool" isBo := fun d h => by
  cases d with
  | dict _ => simp [PyData.plain] at h
  | none => exact (show kitB "NoneType" "bool" = some false by decide +kernel)
  | bool _ => exact (show kitB "bool" "bool" = some true by decide +kernel)
  | int _ => exact (show kitB "int" "bool" = some false by decide +kernel)
  | str _ => exact (show kitB "str" "bool" = some false by decide +kernel)
  | list _ => exact (show kitB "list" "bool" = some false by decide +kernel)
  | tuple _ => exact (show kitB "tuple" "bool" = some false by decide +kernel)
theorem kit_str : KitF "str" isSt := fun d h => by
  cases d with
  | dict _ => simp [PyData.plain] at h
  | none => exact (show kitB "NoneType" "str" = some false by decide +kernel)
  | bool _ => exact (show kitB "bool" "str" = some false by decide +kernel)
  | int _ => exact (show kitB "int" "str" = some false by decide +kernel)
  | str _ => exact (show kitB "str" "str" = some true by decide +kernel)
  | list _ => exact (show kitB "list" "str" = some false by decide +kernel)
  | tuple _ => exact (show kitB "tuple" "str" = some false by decide +kernel)
theorem kit_list : KitF "list" isLi := fun d h => by
  cases d with
  | dict _ => simp [PyData.plain] at h
  | none => exact (show kitB "NoneType" "list" = some false by decide +kernel)
  | bool _ => exact (show kitB "bool" "list" = some false by decide +kernel)
  | int _ => exact (show kitB "int" "list" = some false by decide +kernel)
  | str _ => exact (show kitB "str" "list" = some false by decide +kernel)
  | list _ => exact (show kitB "list" "list" = some true by decide +kernel)
  | tuple _ => exact (show kitB "tuple" "list" = some false by decide +kernel)
theorem kit_tuple : KitF "tuple" isTu := fun d h => by
  cases d with
  | dict _ => simp [PyData.plain] at h
  | none => exact (show kitB "NoneType" "tuple" = some false by decide +kernel)
  | bool _ => exact (show kitB "bool" "tuple" = some false by decide +kernel)
  | int _ => exact (show kitB "int" "tuple" = some false by decide +kernel)
  | str _ => exact (show kitB "str" "tuple" = some false by decide +kernel)
  | list _ => exact (show kitB "list" "tuple" = some false by decide +kernel)
  | tuple _ => exact (show kitB "tuple" "tuple" = some true by decide +kernel)
theorem rp_ty {S H v d} (r : Rp K S H v d) : TyX K H v (.type (tyN d)) := by
  cases r with
  | non => exact .base .non
  | bl b => exact .base (.bl b)
  | int i => exact .base (.int i)
  | str x => exact .base (.str x)
  | lst h t =>
    rcases h with ⟨_, h | ⟨o, h⟩⟩ | h
    · exact .base (.lst h)
    · exact .base (.frz h)
    · rcases h with (h | ⟨o, h⟩) | ⟨o, its, n, hk, hc, _⟩
      · cases h
      · cases h
      · exact .kList hk hc
  | tup h t =>
    rcases h with (h | ⟨o, h⟩) | ⟨o, its, n, hk, hc, _⟩
    · exact .base (.tup h)
    · exact .fTuple h
    · exact .kTuple hk hc
theorem pe_ty {x : Str} {T : String} {pos : Pos} (hm : X.mg x = none) (hv : bootBuiltins x = some (.type T)) (hg : Gl X x) (hn : x ≠ "__name__") (hd : (x == ("__debug__" : Str)) = false) : PE X (.Name x pos) (tC (.ty T)) :=
  ⟨fun pins s σ H Q I h => ld_blt I hg hm hv ⟨.ty T, H, I, rfl, h⟩ hn hd⟩
def eIsi (f : PyData → Bool) (ev : Ev) : Ev := fun δ => (ev δ).bind fun d δ1 => .ok (.bool (f d)) δ1
theorem pd_isi {wx : WXs} {M W U : List Nat} {e : Expr} {ev : Ev} {T : String} {f : PyData → Bool} {x : Str} {p q pos : Pos} (hT : KitF T f) (ha : PD X wx M W U e ev) (hmi : X.mg "isinstance" = none) (hm : X.mg x = none) (hv : bootBuiltins x = some (.type T)) (hgi : Gl X "isinstance" := by rfl) (hg : Gl X x := by rfl)
    (hn : x ≠ "__name__" := by decide) (hd : (x == ("__debug__" : Str)) = false := by decide) (hs1 : starEach [.Name x q] X.env = (false, eval (.Name x q) X.env) :: starEach [] X.env := by rfl)
    (hs : starEach [e, .Name x q] X.env = (false, eval e X.env) :: starEach [.Name x q] X.env := by rfl) (hpl : (backTo pos (starEach [.Name x q] X.env)).any (·.1) = false := by rfl) :
    PD X wx M [] U (.Call (.Name "isinstance" p) [e, .Name x q] [] pos) (eIsi f ev) := by
  refine pe_imp (pe_callB call_isi hgi hmi PyProof.Rows.boot_isinstance (pa_cons ha (pa_cons (pe_ty hm hv hg hn hd) pa_nil hs1) hs) (by decide) (by decide) hs hpl) fun σ H Q ⟨δ, b, L, fin⟩ => ⟨δ, b, L, ?_⟩
  unfold eIsi at fin
  cases e1 : ev δ with
  | bad => rw [e1] at fin; exact fin
  | exc c g x e' => rw [e1] at fin; exact fin
  | ok d δ1 =>
    rw [e1] at fin
    intro v H1 p
    exact ⟨v, .ty T, _, _, f d, rfl, .ty T, rp_ty p.rp, kit_ty (hT d (dp_plain p.rp.dp)), fin (.bl (f d)) H1 ⟨p.loc, p.gr, .bl _⟩⟩
theorem pd_isi2 {wx : WXs} {M W U : List Nat} {e : Expr} {ev : Ev} {T T2 : String} {f f2 : PyData → Bool} {x x2 : Str} {p q q2 tpos pos : Pos} {k : Nat} (hT : KitF T f) (hT2 : KitF T2 f2) (ha : PD X wx M W U e ev) (hmi : X.mg "isinstance" = none) (hm : X.mg x = none) (hv : bootBuiltins x = some (.type T)) (hm2 : X.mg x2 = none) (hv2 : bootBuiltins x2 = some (.type T2)) (hgi : Gl X "isinstance" := by rfl) (hg : Gl X x := by rfl) (hg2 : Gl X x2 := by rfl)
    (hn : x ≠ "__name__" := by decide) (hd : (x == ("__debug__" : Str)) = false := by decide) (hn2 : x2 ≠ "__name__" := by decide) (hd2 : (x2 == ("__debug__" : Str)) = false := by decide)
    (hz1 : starEach [.Name x2 q2] X.env = (false, eval (.Name x2 q2) X.env) :: starEach [] X.env := by rfl) (hz : starEach [.Name x q, .Name x2 q2] X.env = (false, eval (.Name x q) X.env) :: starEach [.Name x2 q2] X.env := by rfl)
    (hs1 : starEach [.Tuple [.Name x q, .Name x2 q2] k tpos] X.env = (false, eval (.Tuple [.Name x q, .Name x2 q2] k tpos) X.env) :: starEach [] X.env := by rfl)
    (hs : starEach [e, .Tuple [.Name x q, .Name x2 q2] k tpos] X.env = (false, eval e X.env) :: starEach [.Tuple [.Name x q, .Name x2 q2] k tpos] X.env := by rfl) (hpl : (backTo pos (starEach [.Tuple [.Name x q, .Name x2 q2] k tpos] X.env)).any (·.1) = false := by rfl) :
    PD X wx M [] U (.Call (.Name "isinstance" p) [e, .Tuple [.Name x q, .Name x2 q2] k tpos] [] pos) (eIsi (fun d => f d || f2 d) ev) := by
  refine pe_imp (pe_callB call_isiT hgi hmi PyProof.Rows.boot_isinstance (pa_cons ha (pa_cons (pe_tup (pa_cons (pe_ty hm hv hg hn hd) (pa_cons (pe_ty hm2 hv2 hg2 hn2 hd2) pa_nil hz1) hz)) pa_nil hs1) hs) (by decide) (by decide) hs hpl) fun σ H Q ⟨δ, b, L, fin⟩ => ⟨δ, b, L, ?_⟩
  unfold eIsi at fin
  cases e1 : ev δ with
  | bad => rw [e1] at fin; exact fin
  | exc c g x e' => rw [e1] at fin; exact fin
  | ok d δ1 =>
    rw [e1] at fin
    intro v H1 p
    refine ⟨by show 2 ≤ sizeLine; decide, fun T' hT' => ?_⟩
    have ex : Ext H1 (upd H1 T' (.tup [.ty T, .ty T2])) := Ext.upd hT'
    have pl := dp_plain p.rp.dp
    refine ⟨v, T', _, _, [.type T, .type T2], f d || f2 d, rfl, upd_same, .cons (.ty T) (.cons (.ty T2) .nil), rp_ty (p.rp.ext (fun _ h => h) ex), kitAny_cons (kit_ty (hT d pl)) (fun z => kitAny_cons (kit_ty (hT2 d pl)) (fun z2 => ?_) fun z2 => ?_) (fun z => ?_), fin _ _ ⟨p.loc.ext ex, p.gr.trans (Gr.ext ex) (fun _ h => h) (fun _ (h : _ ∈ ([] : List Nat)) => by simp at h), .bl _⟩⟩
    · rw [z, z2]; exact kitAny_nil
    · rw [z, z2]; rfl
    · rw [z]; rfl
/-! ### sorted -/
def alikeP (xs : List PyData) : Bool := xs.all fun x => xs.all fun y => PySem.W.alike x y
end
end BD
namespace BD
open PySem PySem.Spec PyProof.Rows L2
open PySem (sizeLine_eq)
section
variable {X : Cx} {wx : WXs} {c : Sx} {M M1 M2 W W1 W2 U U1 U2 sl : List Nat} {K : PySem.W.Frag}
/-! ### methods that change a cell -/
def OpMu (K : PySem.W.Frag) (r : V → List V → Hp → VK → Prop) (f : List PyData → List PyData → Option (PyData × List PyData)) : Prop :=
  ∀ (S : Addr → Prop) (H : Hp) (p : Addr) (vs xs : List V) (ds args : List PyData) (d : PyData) (ds' : List PyData) (Q : VK), H p = some (.lst vs) → RpA K S H vs ds → ¬ S p → RpA K S H xs args → f ds args = some (d, ds') →
    (∀ v vs', Rp K S H v d → RpA K S H vs' ds' → Q v (upd H p (.lst vs'))) → r (.ref p) xs H Q
def eMut (i : Nat) (f : List PyData → List PyData → Option (PyData × List PyData)) (args : Env → R (List PyData)) : Ev := fun δ => match getL i δ with
  | none => .bad
  | some _ => (args δ).bind fun ds δ1 => match getL i δ1 with
    | some xs => match f xs ds with
      | some q => .ok q.1 (δ1.set i (some (.list q.2)))
      | none => .bad
    | none => .bad
theorem tD_mut {mg : Str → Option Value} {i : Nat} {r : V → List V → Hp → VK → Prop} {f : List PyData → List PyData → Option (PyData × List PyData)} {args : Env → R (List PyData)} {σ : L2.St} {H : Hp} {Q : VK} (hf : OpMu K r f) (hM : M.contains i = true) (hW : W.isEmpty = true) (h : tD K mg wx M [] (U ++ [i]) (eMut i f args) σ H Q) :
    tVar i σ H fun x H1 => tyV K "list" x H1 ∧ tDA K mg wx M W U args σ H1 fun xs H2 => r x xs H2 Q := by
  have hM : i ∈ M := by simpa using hM
  have hW : W = [] := by simpa using hW
  subst hW
  obtain ⟨δ, b, L, fin⟩ := h
  unfold eMut at fin
  cases e0 : getL i δ with
  | none => rw [e0] at fin; exact fin.elim
  | some bc0 =>
    rw [e0] at fin
    obtain ⟨p, vs0, _, es, _, hp0, _⟩ := getSlotM (L.mu i hM) (getL_of e0)
    refine ⟨_, es, .inl ⟨rfl, vs0, .inl (.inl hp0)⟩, δ, b, L, ?_⟩
    dsimp only at fin
    cases e1 : args δ with
    | bad => rw [e1] at fin; exact fin
    | exc c g x e' => rw [e1] at fin; exact fun cls dd H' L' g' ex => fin cls dd H' L' (g'.mono inl_app) ex
    | ok ds δ1 =>
      rw [e1] at fin
      intro vs H1 L1 g1 r1
      simp only [R.bind] at fin
      cases e2 : getL i δ1 with
      | none => rw [e2] at fin; exact fin.elim
      | some bc =>
        rw [e2] at fin
        dsimp only at fin
        cases e3 : f bc ds with
        | none => rw [e3] at fin; exact fin.elim
        | some q =>
          rw [e3] at fin
          obtain ⟨p', ws, ds', es', ebc, hp, rB, hB, hZ⟩ := getSlotM (L1.mu i hM) (getL_of e2)
          rw [es] at es'
          cases es'
          cases ebc
          refine hf (Sb M b σ) H1 p ws vs bc ds q.1 q.2 Q hp rB (fun h => h.1 ⟨i, hM, es⟩) (r1.mono (fun _ h => h.nil) (Ext.refl _).kp) e3 fun v vs' rv rvs => ?_
          obtain ⟨La, ga⟩ := L1.put (ds := []) hM es hp rvs
          refine fin v _ ⟨La, g1.trans ga inl_app inr_app, (rv.mono (fun _ h => .inr h) (Ext.refl _).kp : Rp K (SW M [] b σ) H1 v q.1).keep (W1 := []) L1 ga (by simpa [sb] using hM) rfl (by simp [dj])⟩
theorem pd_mut (i : Nat) {r : V → List V → Hp → VK → Prop} {f : List PyData → List PyData → Option (PyData × List PyData)} {id : String} {name y : Str} {apos cpos py : Pos} {e : Expr} {es : List Expr} {evs : Env → R (List PyData)} (slot : PySem.Slot "list" name id) (hty : typeOf (.builtin id) = pure (.type "method_descriptor")) (hm : MtR X id r) (hf : OpMu X.K r f) (ha : PAD X wx M W U (e :: es) evs)
    (hM : M.contains i = true := by rfl) (hW : W.isEmpty = true := by rfl) (hN : X.N[i]? = some y := by rfl) (hv : Vis X.env.scope y := by first | exact Or.inl rfl | exact Or.inr (Or.inl rfl) | exact Or.inr (Or.inr rfl))
    (hd : (y == ("__debug__" : Str)) = false := by decide) (hcd : (y == ("__classdict__" : Str)) = false := by decide) 
    (hbase : attributeBase (.Name y py) name X.env (eval (.Name y py) X.env) = eval (.Name y py) X.env := by rfl)
    (hfew : ((backTo cpos (starEach (e :: es) X.env)).all (fun x => !x.1) && (backToKw cpos (keywordEach [] X.env)).all (fun x => x.1.isSome)
      && decide ((e :: es).length + ([] : List Keyword).length + (if ([] : List Keyword).isEmpty then 0 else 1) < 30)) = true := by rfl)
    (hline : (apos.endLine == cpos.line) = true := by rfl) (hs : starEach (e :: es) X.env = (false, eval e X.env) :: starEach es X.env := by rfl) (hplain : (backTo cpos (starEach es X.env)).any (·.1) = false := by rfl) :
    PD X wx M [] (U ++ [i]) (.Call (.Attribute (.Name y py) name apos) (e :: es) [] cpos) (eMut i f evs) :=
  pe_imp (pe_bm PySem.F.plainAttrs_list slot hty hm (pe_var hN hv hd hcd) ha hbase hfew hline hs hplain) fun σ H Q h => tD_mut hf hM hW h
theorem pd_mut0 (i : Nat) {r : V → List V → Hp → VK → Prop} {f : List PyData → List PyData → Option (PyData × List PyData)} {id : String} {name y : Str} {apos cpos py : Pos} (slot : PySem.Slot "list" name id) (hty : typeOf (.builtin id) = pure (.type "method_descriptor")) (hm : MtR X id r) (hf : OpMu X.K r f)
    (hM : M.contains i = true := by rfl) (hN : X.N[i]? = some y := by rfl) (hv : Vis X.env.scope y := by first | exact Or.inl rfl | exact Or.inr (Or.inl rfl) | exact Or.inr (Or.inr rfl))
    (hd : (y == ("__debug__" : Str)) = false := by decide) (hcd : (y == ("__classdict__" : Str)) = false := by decide) 
    (hbase : attributeBase (.Name y py) name X.env (eval (.Name y py) X.env) = eval (.Name y py) X.env := by rfl) (hline : (apos.endLine == cpos.line) = true := by rfl) :
    PD X wx M [] ([] ++ [i]) (.Call (.Attribute (.Name y py) name apos) [] [] cpos) (eMut i f eNil) :=
  pe_imp (pe_bm0 PySem.F.plainAttrs_list slot hty hm (pe_var hN hv hd hcd) hbase hline) fun σ H Q h => by
    obtain ⟨v, e1, ty, δ, b, L, k⟩ := tD_mut (W := []) (U := []) hf hM rfl h
    exact ⟨v, e1, ty, k [] _ L (Gr.refl _ _ _) .nil⟩
def fAppend : List PyData → List PyData → Option (PyData × List PyData)
  | xs, [d] => if xs.length < 16777216 then some (.none, xs ++ [d]) else none
  | _, _ => none
theorem opMu_append : OpMu K rAppend fAppend := by
  intro S H p vs xs ds args d ds' Q hp rv nS ra e q
  unfold fAppend at e
  split at e
  · split at e
    · cases e
      obtain ⟨v, rfl, r1⟩ := rpa1 ra
      exact ⟨p, vs, v, rfl, rfl, hp, by rw [rv.length, sizeLine_eq]; assumption, q .non _ .non (rv.app (.one r1))⟩
    · cases e
  · cases e
def fPop : List PyData → List PyData → Option (PyData × List PyData)
  | xs, [] => (xs[xs.length - 1]?).map fun d => (d, xs.dropLast)
  | _, _ => none
theorem RpA.dropLast {S H} : ∀ {vs ds}, RpA K S H vs ds → RpA K S H vs.dropLast ds.dropLast
  | _, _, .nil => .nil
  | _, _, .cons a .nil => .nil
  | _, _, .cons a (.cons b t) => .cons a (RpA.dropLast (.cons b t))
theorem opMu_pop : OpMu K rPop fPop := by
  intro S H p vs xs ds args d ds' Q hp rv nS ra e q
  unfold fPop at e
  split at e
  · rw [Option.map_eq_some_iff] at e
    obtain ⟨d0, e1, e2⟩ := e
    cases e2
    cases ra
    obtain ⟨v, h1, h2⟩ := rv.get' e1
    rw [← rv.length] at h1
    exact ⟨p, vs, v, rfl, rfl, hp, h1, q v _ h2 rv.dropLast⟩
  · cases e
def fPopAt : List PyData → List PyData → Option (PyData × List PyData)
  | xs, [.int i] => if inR i = true then (seqIndex? i xs.length).bind fun k => (xs[k]?).map fun d => (d, xs.eraseIdx k) else none
  | _, _ => none
theorem opMu_popAt : OpMu K rPopAt fPopAt := by
  intro S H p vs xs ds args d ds' Q hp rv nS ra e q
  unfold fPopAt at e
  split at e
  · split at e
    · rename_i hi
      rw [Option.bind_eq_some_iff] at e
      obtain ⟨k, e0, e⟩ := e
      rw [Option.map_eq_some_iff] at e
      obtain ⟨d0, e1, e2⟩ := e
      cases e2
      obtain ⟨v, rfl, r1⟩ := rpa1 ra
      cases r1
      obtain ⟨v, h1, h2⟩ := rv.get' e1
      obtain ⟨b1, b2⟩ := inR_of hi
      exact ⟨p, vs, _, k, v, rfl, rfl, hp, by omega, by omega, by rw [rv.length]; exact e0, h1, q v _ h2 (rv.erase k)⟩
    · cases e
  · cases e
/-! ### x[i] = e -/
def setI (xs : List PyData) (k : Int) (d : PyData) : Option (List PyData) := (ixN xs.length k).map fun j => xs.set j d
def sSto (i : Nat) (ei : Ev) (ev : Ev) : Sv := fun δ => liftR (ev δ) fun d δ1 => match getL i δ1 with
  | none => .bad
  | some _ => liftR (ei δ1) fun k δ2 => match k, getL i δ2 with
    | .int j, some xs => match setI xs j d with
      | some ys => .nx (δ2.set i (some (.list ys)))
      | none => .bad
    | _, _ => .bad
theorem psd_sto (i : Nat) {e ie : Expr} {ev ei : Ev} {y : Str} {py spos pos : Pos} (he : PD X c.wx M W1 U1 e ev) (hi : PD X c.wx M W2 U2 ie ei) (hM : M.contains i = true := by rfl) (hW1 : W1.isEmpty = true := by rfl) (h2 : sb U2 M = true := by rfl) (hm : okM c M = true := by rfl)
    (hN : X.N[i]? = some y := by rfl) (hv : Vis X.env.scope y := by first | exact Or.inl rfl | exact Or.inr (Or.inl rfl) | exact Or.inr (Or.inr rfl))
    (hd : (y == ("__debug__" : Str)) = false := by decide) (hcd : (y == ("__classdict__" : Str)) = false := by decide)
    (ha : ∀ v, assign (.Subscript (.Name y py) ie spos) X.env v = (do
      let ov ← holding [v] (eval (.Name y py) X.env)
      let iv ← holding [v, ov] (eval ie X.env)
      standAt spos
      holding [v, ov, iv] (setItem ov iv v)
      release [v, ov, iv] []) := by intro _; rfl)
    (hs : swapsWithSole [.Subscript (.Name y py) ie spos] e pos.line X.env = pure false := by rfl) (hw : swappedStores [.Subscript (.Name y py) ie spos] e X.env = pure none := by rfl)
    (h1 : (assignEach [.Subscript (.Name y py) ie spos] X.env).map (·.2) = [assign (.Subscript (.Name y py) ie spos) X.env] := by rfl) :
    PSD X c M M (.Assign [.Subscript (.Name y py) ie spos] e pos) (sSto i ei ev) := by
  have hM : i ∈ M := by simpa using hM
  have hW1 : W1 = [] := by simpa using hW1
  subst hW1
  refine ps_imp (ps_asg he (pg_sub (pe_var hN hv hd hcd) hi set_list ha) hs hw h1) fun D σ H ⟨δ, b, B, L, f⟩ => ⟨δ, b, L, ?_⟩
  unfold sSto liftR at f
  cases e1 : ev δ with
  | bad => rw [e1] at f; exact f
  | exc k g x e' => rw [e1] at f; exact f.exc_e hm
  | ok d δ1 =>
    rw [e1] at f
    intro v H1 p1
    dsimp only at f
    cases e2 : getL i δ1 with
    | none => rw [e2] at f; exact f.elim
    | some bc0 =>
      rw [e2] at f
      obtain ⟨p, _, _, es, _⟩ := getSlotM (p1.loc.mu i hM) (getL_of e2)
      refine ⟨_, es, δ1, b, p1.loc, ?_⟩
      dsimp only at f
      cases e3 : ei δ1 with
      | bad => rw [e3] at f; exact f
      | exc k g x e' => rw [e3] at f; exact f.exc_e hm
      | ok k δ2 =>
        rw [e3] at f
        intro vi H2 p2
        dsimp only at f
        cases k with
        | int j =>
          cases e4 : getL i δ2 with
          | none => rw [e4] at f; exact f.elim
          | some xs =>
            rw [e4] at f
            dsimp only at f
            cases e5 : setI xs j d with
            | none => rw [e5] at f; exact f.elim
            | some ys =>
              rw [e5] at f
              obtain ⟨p', ws, ds', es', ebc, hp, rB, hB, hZ⟩ := getSlotM (p2.loc.mu i hM) (getL_of e4)
              rw [es] at es'
              cases es'
              cases ebc
              unfold setI at e5
              rw [Option.map_eq_some_iff] at e5
              obtain ⟨n, e6, rfl⟩ := e5
              have rk := p2.rp
              cases rk
              refine ⟨p, ws, j, n, rfl, rfl, hp, by rw [rB.length]; exact e6, ?_⟩
              have rv := p1.rp.keep p1.loc p2.gr h2 rfl (by simp [dj])
              obtain ⟨La, ga⟩ := p2.loc.put (ds := []) hM es hp (RpA.set (rv.mono (fun _ h => h.nil) (Ext.refl _).kp) n rB)
              exact f _ _ La
        | _ => exact f.elim
/-! ### unpacking -/
def sUnp (g : PyData → Env → Option Env) (ev : Ev) : Sv := fun δ => liftR (ev δ) fun d δ1 => match g d δ1 with
  | some δ2 => .nx δ2
  | none => .bad
theorem psd_unp {tg e : Expr} {g : PyData → Env → Option Env} {ev : Ev} {pos : Pos} (he : PD X c.wx M W U e ev) (hg : PGD X c.rs M M1 sl tg g) (hW : W.isEmpty = true := by rfl) (hm : okM c M = true := by rfl)
    (hs : swapsWithSole [tg] e pos.line X.env = pure false := by rfl) (hw : swappedStores [tg] e X.env = pure none := by rfl) (h1 : (assignEach [tg] X.env).map (·.2) = [assign tg X.env] := by rfl) :
    PSD X c M M1 (.Assign [tg] e pos) (sUnp g ev) := by
  have hW : W = [] := by simpa using hW
  subst hW
  refine ps_imp (ps_asg he hg hs hw h1) fun D σ H ⟨δ, b, B, L, f⟩ => ⟨δ, b, L, ?_⟩
  unfold sUnp liftR at f
  cases e1 : ev δ with
  | bad => rw [e1] at f; exact f
  | exc k g' x e' => rw [e1] at f; exact f.exc_e hm
  | ok d δ1 =>
    rw [e1] at f
    intro v H1 p
    refine ⟨δ1, b, d, fun q hq => B.rf q hq, p.loc, p.rp.mono (fun _ h => h.nil) (Ext.refl _).kp, ?_⟩
    dsimp only at f
    cases e2 : g d δ1 with
    | none => rw [e2] at f; exact f
    | some δ2 =>
      rw [e2] at f
      exact fun σ' L' _ _ _ => f σ' H1 L'
/-- a, b = x, y -/
def sPar (h : List PyData → Env → Option Env) (evs : Env → R (List PyData)) : Sv := fun δ => match evs δ with
  | .ok ds δ1 => match h ds δ1 with
    | some δ2 => .nx δ2
    | none => .bad
  | .exc k f x e => .exc k f x e
  | .bad => .bad
theorem rpa2' {S H} {xs : List V} {ds : List PyData} (r : RpA K S H xs ds) (h : ds.length = 2) : ∃ v w d e, xs = [v, w] ∧ ds = [d, e] ∧ Rp K S H v d ∧ Rp K S H w e := by
  match ds, h with
  | [d, e], _ =>
    obtain ⟨v, w, rfl, h1, h2⟩ := rpa2 r
    exact ⟨v, w, d, e, rfl, rfl, h1, h2⟩
theorem psd_par (i j : Nat) {x y : Str} {a b : Expr} {evs : Env → R (List PyData)} {px py pt pos : Pos} {kt k2 : Nat} {pt2 : Pos} (hc : X.calm = true) (hN : X.N.Nodup) (ha : PAD X c.wx M W U [a, b] evs) (hW : W.isEmpty = true := by rfl) (hm : okM c M = true := by rfl)
    (hij : i ≠ j := by decide) (hri : c.rs.contains i = false := by rfl) (hrj : c.rs.contains j = false := by rfl) (hi : X.N[i]? = some x := by rfl) (hj : X.N[j]? = some y := by rfl) (hx : X.env.scope.names.lookup x = some .local := by rfl) (hy : X.env.scope.names.lookup y = some .local := by rfl)
    (hw : swappedStores [.Tuple [.Name x px, .Name y py] kt pt] (.Tuple [a, b] k2 pt2) X.env = pure (some [x, y]) := by rfl)
    (hs : swapsWithSole [.Tuple [.Name x px, .Name y py] kt pt] (.Tuple [a, b] k2 pt2) pos.line X.env = pure false := by rfl) :
    PSD X c M (del (del M i) j) (.Assign [.Tuple [.Name x px, .Name y py] kt pt] (.Tuple [a, b] k2 pt2) pos) (sPar (gsCons (gNm i) (gsCons (gNm j) gsNil)) evs) := by
  have hW : W = [] := by simpa using hW
  subst hW
  refine ps_imp (ps_par hc hN hi hj hij hx hy ha hw hs) fun D σ H ⟨δ, b, B, L, f⟩ => ⟨δ, b, L, ?_⟩
  unfold sPar at f
  cases e1 : evs δ with
  | bad => rw [e1] at f; exact f
  | exc k g' x e' => rw [e1] at f; exact f.exc_e hm
  | ok ds δ1 =>
    rw [e1] at f
    intro vs H1 L1 g1 r1
    dsimp only at f
    by_cases hl : ds.length = 2
    · obtain ⟨v, w, d, e, rfl, rfl, h1, h2⟩ := rpa2' r1 hl
      refine ⟨v, w, rfl, ?_⟩
      have f : ∀ σ' H', Loc X.K (del (del M i) j) b σ' H' ((δ1.set i (some d)).set j (some e)) → D.nx σ' H' := f
      have n1 : ∀ q ∈ b.rf, q.1 ≠ i := fun q hq z => by
        have := B.rf q hq
        rw [z] at this
        simp [this] at hri
      have n2 : ∀ q ∈ b.rf, q.1 ≠ j := fun q hq z => by
        have := B.rf q hq
        rw [z] at this
        simp [this] at hrj
      exact f _ _ ((L1.set (h1.mono (fun _ h => h.nil) (Ext.refl _).kp) n1).set (h2.mono (fun _ h => h.nil.set) (Ext.refl _).kp) n2)
    · exfalso
      have : gsCons (gNm i) (gsCons (gNm j) gsNil) ds δ1 = none := by
        match ds, hl with
        | [], _ => rfl
        | [_], _ => rfl
        | _ :: _ :: _ :: _, _ => rfl
      rw [this] at f
      exact f
theorem psd_par3 (i j l : Nat) {x y z : Str} {a b c' : Expr} {evs : Env → R (List PyData)} {px py pz pt pos : Pos} {kt k2 : Nat} {pt2 : Pos} (hc : X.calm = true) (hN : X.N.Nodup) (ha : PAD X c.wx M W U [a, b, c'] evs) (hW : W.isEmpty = true := by rfl) (hm : okM c M = true := by rfl)
    (hij : i ≠ j := by decide) (hil : i ≠ l := by decide) (hjl : j ≠ l := by decide) (hri : c.rs.contains i = false := by rfl) (hrj : c.rs.contains j = false := by rfl) (hrl : c.rs.contains l = false := by rfl) (hi : X.N[i]? = some x := by rfl) (hj : X.N[j]? = some y := by rfl) (hl : X.N[l]? = some z := by rfl)
    (hx : X.env.scope.names.lookup x = some .local := by rfl) (hy : X.env.scope.names.lookup y = some .local := by rfl) (hz : X.env.scope.names.lookup z = some .local := by rfl)
    (hw : swappedStores [.Tuple [.Name x px, .Name y py, .Name z pz] kt pt] (.Tuple [a, b, c'] k2 pt2) X.env = pure (some [x, y, z]) := by rfl)
    (hs : swapsWithSole [.Tuple [.Name x px, .Name y py, .Name z pz] kt pt] (.Tuple [a, b, c'] k2 pt2) pos.line X.env = pure false := by rfl) :
    PSD X c M (del (del (del M i) j) l) (.Assign [.Tuple [.Name x px, .Name y py, .Name z pz] kt pt] (.Tuple [a, b, c'] k2 pt2) pos) (sPar (gsCons (gNm i) (gsCons (gNm j) (gsCons (gNm l) gsNil))) evs) := by
  have hW : W = [] := by simpa using hW
  subst hW
  refine ps_imp (ps_par3 hc hN hi hj hl hij hil hjl hx hy hz ha hw hs) fun D σ H ⟨δ, b, B, L, f⟩ => ⟨δ, b, L, ?_⟩
  unfold sPar at f
  cases e1 : evs δ with
  | bad => rw [e1] at f; exact f
  | exc k g' x e' => rw [e1] at f; exact f.exc_e hm
  | ok ds δ1 =>
    rw [e1] at f
    intro vs H1 L1 g1 r1
    dsimp only at f
    have n1 : ∀ {m : Nat}, c.rs.contains m = false → ∀ q ∈ b.rf, q.1 ≠ m := fun {m} hr q hq z => by
      have := B.rf q hq
      rw [z] at this
      simp [this] at hr
    match ds, r1, f with
    | [d, e, g], .cons h1 (.cons h2 (.cons h3 .nil)), f =>
      refine ⟨_, _, _, rfl, ?_⟩
      have f : ∀ σ' H', Loc X.K (del (del (del M i) j) l) b σ' H' (((δ1.set i (some d)).set j (some e)).set l (some g)) → D.nx σ' H' := f
      exact f _ _ (((L1.set (h1.mono (fun _ h => h.nil) (Ext.refl _).kp) (n1 hri)).set (h2.mono (fun _ h => h.nil.set) (Ext.refl _).kp) (n1 hrj)).set (h3.mono (fun _ h => h.nil.set.set) (Ext.refl _).kp) (n1 hrl))
    | [], _, f => exact f.elim
    | [_], _, f => exact f.elim
    | [_, _], _, f => exact f.elim
    | _ :: _ :: _ :: _ :: _, _, f => exact f.elim
/-! ### name op= e -/
def sAug (i : Nat) (f : PyData → PyData → Option PyData) (ev : Ev) : Sv := fun δ => match eVar i δ with
  | .ok x _ => liftR (ev δ) fun y δ1 => match f x y with
    | some d => .nx (δ1.set i (some d))
    | none => .bad
  | _ => .bad
theorem psd_aug (i : Nat) {x : Str} {e : Expr} {ev : Ev} {op : Operator} {r : R2} {f : PyData → PyData → Option PyData} {pos pos' : Pos} (hN : X.N.Nodup) (ho : OpR X (inplaceOp op) r) (hf : Op2 X.K r f) (he : PD X c.wx M W U e ev) (hM : M.contains i = false := by rfl) (hW : W.isEmpty = true := by rfl) (hU : sb U M = true := by rfl) (hr : c.rs.contains i = false := by rfl) (hm : okM c M = true := by rfl)
    (hi : X.N[i]? = some x := by rfl) (hx : L2.Loc X.env.scope x := by first | exact Or.inl rfl | exact Or.inr rfl)
    (hfn : X.fn x = true ∨ X.env.scope.names.lookup x = some .local := by first | exact .inl rfl | exact .inr rfl | assumption) : PSD X c M (del M i) (.AugAssign (.Name x pos') op e pos) (sAug i f ev) := by
  have nM : i ∉ M := by simpa using hM
  have hW : W = [] := by simpa using hW
  subst hW
  refine ps_imp (ps_aug hN hi hx he (fun pins s σ H x y v u Q I rx ry q => ho pins s σ H x y v u Q I rx ry q) hfn) fun D σ H ⟨δ, b, B, L, fin⟩ => ?_
  unfold sAug liftR at fin
  cases e0 : eVar i δ with
  | bad => rw [e0] at fin; exact fin.elim
  | exc c g x e' => exact (eVar_exc e0).elim
  | ok d0 δ0 =>
    obtain ⟨e1, rfl⟩ := eVar_ok e0
    rw [e0] at fin
    obtain ⟨v, e2, r0⟩ := getSlotI (L.imm i nM) e1 (eVar_nx e0)
    refine ⟨v, e2, δ0, b, L, ?_⟩
    dsimp only at fin
    cases e3 : ev δ0 with
    | bad => rw [e3] at fin; exact fin
    | exc k g' x e' => rw [e3] at fin; exact fin.exc_e hm
    | ok d δ1 =>
      rw [e3] at fin
      intro w H1 p
      dsimp only at fin
      cases e4 : f d0 d with
      | none => rw [e4] at fin; exact fin.elim
      | some z =>
        rw [e4] at fin
        have r1 : Rp X.K (SW M [] b σ) H1 v d0 := (r0.mono (fun _ h => .inr h) (Ext.refl _).kp : Rp X.K (SW M [] b σ) H v d0).keep (W1 := []) L p.gr hU rfl (by simp [dj])
        refine hf _ H1 v w d0 d z _ r1 p.rp e4 fun v' H' ex rv => fin _ _ (((p.loc.ext ex).set (rv.mono (fun q h => ?_) (Ext.refl _).kp) fun q hq zz => ?_))
        · rcases h with h | h
          · exact h.nil
          · exact p.loc.nw (fun _ h => h) h
        · have := B.rf q hq
          rw [zz] at this
          simp [this] at hr
end
end BD
namespace BD
open PySem PySem.Spec PyProof.Rows L2
open PySem (sizeLine_eq)
/-! ### a def of the top and what it keeps -/
section
variable (P : Program) (w : World) (K : PySem.W.Frag) (mg : Str → Option Value) (base : Heap)
/-- it stands at the top -/
structure At (x : Str) (st : Stmt) (ps : List Str) : Prop where
  ex : ∃ f fd, mg x = some (.ref f) ∧ Fun K x x st f fd ∧ ∀ us : List Value, us.length = ps.length → bindArgs fd ⟨us, []⟩ = pure (ps.zip us)
structure DP (k : Nat) (x : Str) (st : Stmt) (ps : List Str) (n : Nat) (fr : Bool) (g : List PyData → FR) : Prop where
  ex : ∃ f fd, FnG P w K mg base k f fd ps (SpP K mg n fr g) ∧ mg x = some (.ref f) ∧ Fun K x x st f fd ∧ Binds K fd ps []
structure DB (k : Nat) (x : Str) (st : Stmt) (ps : List Str) (n : Nat) (fr : Bool) (g : List PyData → List PyData → FR) : Prop where
  ex : ∃ f fd, FnG P w K mg base k f fd ps (SpB K mg n fr g) ∧ mg x = some (.ref f) ∧ Fun K x x st f fd ∧ Binds K fd ps []
end
section
variable {P : Program} {w : World} {K : PySem.W.Frag} {mg : Str → Option Value} {base : Heap} {k j : Nat} {x : Str} {st : Stmt} {ps N : List Str} {n : Nat} {fr : Bool} {g : List PyData → FR} {gb : List PyData → List PyData → FR} {sv : Sv} {M1 : List Nat}
theorem DP.mono (D : DP P w K mg base j x st ps n fr g) (h : j ≤ k) : DP P w K mg base k x st ps n fr g := by
  obtain ⟨f, fd, F, r⟩ := D.ex
  exact ⟨f, fd, F.mono h, r⟩
theorem DB.mono (D : DB P w K mg base j x st ps n fr gb) (h : j ≤ k) : DB P w K mg base k x st ps n fr gb := by
  obtain ⟨f, fd, F, r⟩ := D.ex
  exact ⟨f, fd, F.mono h, r⟩
/-- no answer is ever promised -/
theorem DP.none (A : At K mg x st ps) : DP P w K mg base k x st ps ps.length fr (fun _ => .bad) := by
  obtain ⟨f, fd, h1, h2, h3⟩ := A.ex
  exact ⟨f, fd, ⟨fun vs H Q E h => h.1, fun A outer s H ar us vs Q E hr e0 hb hv h => by
    obtain ⟨_, _, _, _, z⟩ := h
    exact z.elim⟩, h1, h2, .all h3⟩
theorem DB.none (A : At K mg x st ps) : DB P w K mg base k x st ps ps.length fr (fun _ _ => .bad) := by
  obtain ⟨f, fd, h1, h2, h3⟩ := A.ex
  exact ⟨f, fd, ⟨fun vs H Q E h => h.1, fun A outer s H ar us vs Q E hr e0 hb hv h => by
    obtain ⟨_, _, _, _, _, _, _, _, _, _, _, _, z⟩ := h
    exact z.elim⟩, h1, h2, .all h3⟩
theorem DP.make (A : At K mg x st ps) (S : FnScope N ps (defScope st)) (hfr : fr = false ∨ ∀ δ δ', sv δ ≠ .nx δ')
    (hb : ∀ (f : Addr) (cdv : Value) (A : Around) (outer : List PySem.Env) (s : Shared) (H : Hp) (E : XK), RoomG k (A.deeper (PyProof.Rows.envOfC x (defScope st) s.heap.objs.size f cdv)) →
      PSsD (cxOf (L2.CX P w) P w K mg base N x (defScope st) f cdv A outer s H E) (cP E fr) [] M1 (defBody st) sv) : DP P w K mg base (k + 1) x st ps ps.length fr (runP N.length sv) := by
  obtain ⟨f, fd, h1, h2, h3⟩ := A.ex
  exact ⟨f, fd, def_P h2 S hfr (hb f), h1, h2, .all h3⟩
theorem DB.make (A : At K mg x st ps) (S : FnScope N ps (defScope st)) (hfr : fr = false ∨ ∀ δ δ', sv δ ≠ .nx δ')
    (hb : ∀ (f : Addr) (cdv : Value) (A : Around) (outer : List PySem.Env) (s : Shared) (H : Hp) (E : XK), RoomG k (A.deeper (PyProof.Rows.envOfC x (defScope st) s.heap.objs.size f cdv)) →
      PSsD (cxOf (L2.CX P w) P w K mg base N x (defScope st) f cdv A outer s H E) (cB E fr) [0] M1 (defBody st) sv) : DB P w K mg base (k + 1) x st ps ps.length fr (runB N.length sv) := by
  obtain ⟨f, fd, h1, h2, h3⟩ := A.ex
  exact ⟨f, fd, def_B h2 S hfr (hb f), h1, h2, .all h3⟩
end
/-! blocks that do not run out -/
theorem nx_ret {ev : Ev} (δ δ' : Env) : sRet ev δ ≠ .nx δ' := by
  unfold sRet liftR
  split <;> simp
theorem nx_nev (δ δ' : Env) : sNev δ ≠ .nx δ' := by simp [sNev]
theorem nx_seq2 {s t : Sv} (h : ∀ δ δ', t δ ≠ .nx δ') (δ δ' : Env) : sSeq s t δ ≠ .nx δ' := by
  unfold sSeq
  split
  · exact h _ _
  · rename_i hn
    intro e
    exact hn _ e
theorem nx_seq1 {s t : Sv} (h : ∀ δ δ', s δ ≠ .nx δ') (δ δ' : Env) : sSeq s t δ ≠ .nx δ' := by
  unfold sSeq
  split
  · rename_i e
    exact absurd e (h _ _)
  · rename_i hn
    intro e
    exact hn _ e
theorem nx_if {t : Env → R Bool} {s u : Sv} (h : ∀ δ δ', s δ ≠ .nx δ') (h' : ∀ δ δ', u δ ≠ .nx δ') (δ δ' : Env) : sIf t s u δ ≠ .nx δ' := by
  unfold sIf
  split
  · split
    · exact h _ _
    · exact h' _ _
  · simp
  · simp
/-! calls by the bundles -/
section
variable {X : Cx} {wx : WXs} {M W W1 W2 U U1 U2 : List Nat} {k j : Nat} {x : Str} {st : Stmt} {ps ks : List Str} {n : Nat} {fr : Bool} {g : List PyData → FR} {gb : List PyData → List PyData → FR} {p pos : Pos} {e : Expr} {es : List Expr} {evs evk : Env → R (List PyData)} {kws : List Keyword}
theorem cP_ (D : DP X.prog X.w X.K X.mg X.base j x st ps n fr g) (hr : RoomG k X.A) (hj : j ≤ k) (tk : Takes X wx) (ha : PAD X wx M W U (e :: es) evs) (hg : Gl X x := by rfl)
    (hdb : (x == ("__debug__" : Str)) = false := by decide) (he : starEach (e :: es) X.env = (false, eval e X.env) :: starEach es X.env := by rfl) (hpl : (backTo pos (starEach es X.env)).any (·.1) = false := by rfl) :
    PD X wx M W U (.Call (.Name x p) (e :: es) [] pos) (eCallP n none g evs) := by
  obtain ⟨f, fd, F, h1, h2, h3⟩ := D.ex
  exact pd_callP F (hr.mono hj) h1 h2.kp h3 tk ha hg hdb he hpl
theorem cPf (D : DP X.prog X.w X.K X.mg X.base j x st ps n true g) (hr : RoomG k X.A) (hj : j ≤ k) (tk : Takes X wx) (ha : PAD X wx M W U (e :: es) evs) (hg : Gl X x := by rfl)
    (hW : W.isEmpty = true := by rfl) (hU : sb U M = true := by rfl) (hdb : (x == ("__debug__" : Str)) = false := by decide) (he : starEach (e :: es) X.env = (false, eval e X.env) :: starEach es X.env := by rfl) (hpl : (backTo pos (starEach es X.env)).any (·.1) = false := by rfl) :
    PFD X wx M U (.Call (.Name x p) (e :: es) [] pos) (eCallP n none g evs) := by
  obtain ⟨f, fd, F, h1, h2, h3⟩ := D.ex
  exact pfd_callP F (hr.mono hj) h1 h2.kp h3 tk ha hg hW hU hdb he hpl
/-- how the keywords bind -/
abbrev KwB (x : Str) (st : Stmt) (ps ks : List Str) (n1 : Nat) (ix : List Nat) : Prop := ∀ (kV doc pm : Value) (an : Option Addr) (cdv ct : Value) (us ws : List Value), us.length = n1 → ws.length = ks.length → bindArgs (PySem.W.fnOf x x (defArgs st) (defBody st) (defScope st) .none kV doc pm an cdv ct) ⟨us, ks.zip ws⟩ = pure (ps.zip (pick ix (us ++ ws)))
theorem cK_ {n1 : Nat} {ix : List Nat} (D : DP X.prog X.w X.K X.mg X.base j x st ps n fr g) (hb : KwB x st ps ks n1 ix) (hr : RoomG k X.A) (hj : j ≤ k) (tk : Takes X wx) (ha : PAD X wx M W1 U1 (e :: es) evs) (hkw : PKD X wx M W2 U2 kws evk)
    (h1 : sb U2 M = true := by rfl) (h2 : sb W1 M = true := by rfl) (h3 : dj U2 W1 = true := by rfl) (hg : Gl X x := by rfl) (hall : (backToKw pos (keywordEach kws X.env)).all (·.1.isSome) = true := by rfl) (hks : (backToKw pos (keywordEach kws X.env)).filterMap (·.1) = ks := by rfl)
    (hdb : (x == ("__debug__" : Str)) = false := by decide) (he : starEach (e :: es) X.env = (false, eval e X.env) :: starEach es X.env := by rfl)
    (hpl : ((backTo pos (starEach (e :: es) X.env)).any (·.1) || (backToKw pos (keywordEach kws X.env)).any (·.1.isNone)) = false := by rfl) :
    PD X wx M (W1 ++ W2) (U1 ++ U2) (.Call (.Name x p) (e :: es) kws pos) (eCallP n (some ix) g (eApd n1 ks.length evs evk)) := by
  obtain ⟨f, fd, F, q1, q2, q3⟩ := D.ex
  exact pd_callK F (hr.mono hj) q1 q2.kp (KB.mk_ q2 hb) tk ha hkw h1 h2 h3 hg hall hks hdb he hpl
theorem cK0 {ix : List Nat} (D : DP X.prog X.w X.K X.mg X.base j x st ps n fr g) (hb : KwB x st ps ks 0 ix) (hr : RoomG k X.A) (hj : j ≤ k) (tk : Takes X wx) (hkw : PKD X wx M W U kws evk)
    (hg : Gl X x := by rfl) (hall : (backToKw pos (keywordEach kws X.env)).all (·.1.isSome) = true := by rfl) (hks : (backToKw pos (keywordEach kws X.env)).filterMap (·.1) = ks := by rfl)
    (hdb : (x == ("__debug__" : Str)) = false := by decide) (hpl : ((backTo pos (starEach [] X.env)).any (·.1) || (backToKw pos (keywordEach kws X.env)).any (·.1.isNone)) = false := by rfl) (h1 : sb U M = true := by rfl) :
    PD X wx M W U (.Call (.Name x p) [] kws pos) (eCallP n (some ix) g (eApd 0 ks.length eNil evk)) := by
  obtain ⟨f, fd, F, q1, q2, q3⟩ := D.ex
  exact pd_callK0 F (hr.mono hj) q1 q2.kp (KB.mk_ q2 hb) tk hkw hg hall hks hdb hpl h1
theorem cB_ (i : Nat) (D : DB X.prog X.w X.K X.mg X.base j x st ps n fr gb) (hr : RoomG k X.A) (hj : j ≤ k) (tk : Takes X wx) (ha : PAD X wx M W U es evs) {y : Str} {py : Pos}
    (hM : M.contains i = true := by rfl) (hi : W.contains i = false := by rfl) (hw : sb W M = true := by rfl) (hN : X.N[i]? = some y := by rfl) (hv : Vis X.env.scope y := by first | exact Or.inl rfl | exact Or.inr (Or.inl rfl) | exact Or.inr (Or.inr rfl))
    (hd : (y == ("__debug__" : Str)) = false := by decide) (hcd : (y == ("__classdict__" : Str)) = false := by decide) (hg : Gl X x := by rfl)
    (hdb : (x == ("__debug__" : Str)) = false := by decide) (he : starEach (.Name y py :: es) X.env = (false, eval (.Name y py) X.env) :: starEach es X.env := by rfl) (hpl : (backTo pos (starEach es X.env)).any (·.1) = false := by rfl) :
    PD X wx M W (U ++ [i]) (.Call (.Name x p) (.Name y py :: es) [] pos) (eCallB i n gb evs) := by
  obtain ⟨f, fd, F, q1, q2, q3⟩ := D.ex
  exact pd_callB i F (hr.mono hj) q1 q2.kp q3 tk ha hM hi hw hN hv hd hcd hg hdb he hpl
theorem cBf (i : Nat) (D : DB X.prog X.w X.K X.mg X.base j x st ps n true gb) (hr : RoomG k X.A) (hj : j ≤ k) (tk : Takes X wx) (ha : PAD X wx M W U es evs) {y : Str} {py : Pos}
    (hM : M.contains i = true := by rfl) (hW : W.isEmpty = true := by rfl) (hU : sb U M = true := by rfl) (hN : X.N[i]? = some y := by rfl) (hv : Vis X.env.scope y := by first | exact Or.inl rfl | exact Or.inr (Or.inl rfl) | exact Or.inr (Or.inr rfl))
    (hd : (y == ("__debug__" : Str)) = false := by decide) (hcd : (y == ("__classdict__" : Str)) = false := by decide) (hg : Gl X x := by rfl)
    (hdb : (x == ("__debug__" : Str)) = false := by decide) (he : starEach (.Name y py :: es) X.env = (false, eval (.Name y py) X.env) :: starEach es X.env := by rfl) (hpl : (backTo pos (starEach es X.env)).any (·.1) = false := by rfl) :
    PFD X wx M (U ++ [i]) (.Call (.Name x p) (.Name y py :: es) [] pos) (eCallB i n gb evs) := by
  obtain ⟨f, fd, F, q1, q2, q3⟩ := D.ex
  exact pfd_callB i F (hr.mono hj) q1 q2.kp q3 tk ha hM hW hU hN hv hd hcd hg hdb he hpl
theorem cT_ {a : Ev} (D : DB X.prog X.w X.K X.mg X.base j x st ps n fr gb) (hr : RoomG k X.A) (hj : j ≤ k) (tk : Takes X wx) (h0 : PFD X wx M U1 e a) (ha : PAD X wx M W U2 es evs)
    (hW : W.isEmpty = true := by rfl) (hU1 : sb U1 M = true := by rfl) (hU2 : sb U2 M = true := by rfl) (hg : Gl X x := by rfl)
    (hdb : (x == ("__debug__" : Str)) = false := by decide) (he : starEach (e :: es) X.env = (false, eval e X.env) :: starEach es X.env := by rfl) (hpl : (backTo pos (starEach es X.env)).any (·.1) = false := by rfl) :
    PD X wx M W (U1 ++ U2) (.Call (.Name x p) (e :: es) [] pos) (eCallT n gb a evs) := by
  obtain ⟨f, fd, F, q1, q2, q3⟩ := D.ex
  exact pd_callT F (hr.mono hj) q1 q2.kp q3 tk h0 ha hW hU1 hU2 hg hdb he hpl
end
end BD
namespace BD
open PySem PySem.Spec PyProof.Rows L2
open PySem (sizeLine_eq)
section
variable {X : Cx} {wx : WXs} {c : Sx} {M M1 M2 W W1 W2 U U1 U2 sl : List Nat} {K : PySem.W.Frag}
/-! ### operations whose answers hold no list -/
theorem pd_bltC {id : String} {r : List V → Hp → VK → Prop} {f : List PyData → Option PyData} {x : Str} {p pos : Pos} {e : Expr} {es : List Expr} {evs : Env → R (List PyData)} (hc : CallR X (.builtin id) r) (hf : OpN X.K r f) (hl : ∀ ds d, f ds = some d → lfree d = true) (hm : X.mg x = none) (hv : bootBuiltins x = some (.builtin id)) (ha : PAD X wx M W U (e :: es) evs)
    (hg : Gl X x := by rfl) (hn : x ≠ "__name__" := by decide) (hdb : (x == ("__debug__" : Str)) = false := by decide) (he : starEach (e :: es) X.env = (false, eval e X.env) :: starEach es X.env := by rfl) (hpl : (backTo pos (starEach es X.env)).any (·.1) = false := by rfl) :
    PD X wx M [] U (.Call (.Name x p) (e :: es) [] pos) (eApp f evs) := pe_imp (pd_blt hc hf hm hv ha hg hn hdb he hpl) fun σ H Q ⟨δ, b, L, fin⟩ => ⟨δ, b, L, by
      cases e1 : eApp f evs δ with
      | bad => rw [e1] at fin; exact fin
      | exc c g x e' => rw [e1] at fin; exact fin
      | ok d δ1 =>
        rw [e1] at fin
        have hd : lfree d = true := by
          unfold eApp at e1
          cases e2 : evs δ with
          | bad => rw [e2] at e1; cases e1
          | exc => rw [e2] at e1; cases e1
          | ok ds δ2 =>
            rw [e2] at e1
            cases e3 : f ds with
            | none => simp only [R.bind, e3] at e1; cases e1
            | some z => simp only [R.bind, e3] at e1; cases e1; exact hl _ _ e3
        exact fun v H1 p => fin v H1 ⟨p.loc, p.gr, p.rp.free hd⟩⟩
theorem pd_binC {op : Operator} {r : R2} {f : PyData → PyData → Option PyData} {a c : Expr} {ea eb : Ev} {pos : Pos} (ho : OpR X (binaryOp op) r) (hf : Op2 X.K r f) (hl : ∀ x y d, f x y = some d → lfree d = true) (ha : PD X wx M W1 U1 a ea) (hb : PD X wx M W2 U2 c eb)
    (h1 : sb U2 M = true := by rfl) (h2 : sb W1 M = true := by rfl) (h3 : dj U2 W1 = true := by rfl) : PD X wx M [] (U1 ++ U2) (.BinOp a op c pos) (eBin f ea eb) :=
  pe_imp (pd_bin ho hf ha hb h1 h2 h3) fun σ H Q ⟨δ, b, L, fin⟩ => ⟨δ, b, L, by
      cases e1 : eBin f ea eb δ with
      | bad => rw [e1] at fin; exact fin
      | exc c g x e' => rw [e1] at fin; exact fin
      | ok d δ1 =>
        rw [e1] at fin
        have hd : lfree d = true := by
          unfold eBin at e1
          cases e2 : ea δ with
          | bad => rw [e2] at e1; cases e1
          | exc => rw [e2] at e1; cases e1
          | ok x δ2 =>
            rw [e2] at e1
            cases e4 : eb δ2 with
            | bad => simp only [R.bind, e4] at e1; cases e1
            | exc => simp only [R.bind, e4] at e1; cases e1
            | ok y δ3 =>
              cases e3 : f x y with
              | none => simp only [R.bind, e4, e3] at e1; cases e1
              | some z => simp only [R.bind, e4, e3] at e1; cases e1; exact hl _ _ _ e3
        exact fun v H1 p => fin v H1 ⟨p.loc, p.gr, p.rp.free hd⟩⟩
theorem lf_i2 {C : Int → Int → Bool} {g : Int → Int → Int} : ∀ x y d, i2 C g x y = some d → lfree d = true := fun x y d h => by
  unfold i2 at h
  split at h
  · split at h
    · cases h; rfl
    · cases h
  · cases h
theorem lf_len : ∀ ds d, lenD ds = some d → lfree d = true := fun ds d h => by
  unfold lenD at h
  split at h
  · cases h; rfl
  · cases h; rfl
  · split at h
    · cases h; rfl
    · cases h
  · cases h
theorem lf_abs : ∀ ds d, absD ds = some d → lfree d = true := fun ds d h => by
  unfold absD at h
  split at h <;> cases h
  rfl
theorem lf_sum : ∀ ds d, sumD ds = some d → lfree d = true := fun ds d h => by
  unfold sumD at h
  split at h
  · rw [Option.map_eq_some_iff] at h; obtain ⟨_, _, rfl⟩ := h; rfl
  · cases h
theorem lf_any : ∀ ds d, anyD ds = some d → lfree d = true := fun ds d h => by
  unfold anyD at h
  split at h
  · rw [Option.map_eq_some_iff] at h; obtain ⟨_, _, rfl⟩ := h; rfl
  · cases h
theorem lf_all : ∀ ds d, allD ds = some d → lfree d = true := fun ds d h => by
  unfold allD at h
  split at h
  · rw [Option.map_eq_some_iff] at h; obtain ⟨_, _, rfl⟩ := h; rfl
  · cases h
theorem lf_repr : ∀ ds d, reprD ds = some d → lfree d = true := fun ds d h => by
  unfold reprD at h
  split at h
  · split at h
    · cases h; rfl
    · cases h
  · cases h
theorem lf_max2 : ∀ ds d, max2D ds = some d → lfree d = true := fun ds d h => by
  unfold max2D at h
  split at h <;> cases h
  rfl
theorem lf_min2 : ∀ ds d, min2D ds = some d → lfree d = true := fun ds d h => by
  unfold min2D at h
  split at h <;> cases h
  rfl
/-! ### the items of a cell -/
def eIxM (i : Nat) (eb : Ev) : Ev := fun δ => match getL i δ with
  | none => .bad
  | some _ => (eb δ).bind fun k δ1 => match getL i δ1 with
    | some xs => ofO (atD (.list xs) k) δ1
    | none => .bad
theorem pd_ixM (i : Nat) {c : Expr} {eb : Ev} {y : Str} {py pos : Pos} (hb : PD X wx M W2 U2 c eb) (hM : M.contains i = true := by rfl) (hs : PlainIx c := by exact fun _ _ => rfl)
    (hN : X.N[i]? = some y := by rfl) (hv : Vis X.env.scope y := by first | exact Or.inl rfl | exact Or.inr (Or.inl rfl) | exact Or.inr (Or.inr rfl))
    (hd : (y == ("__debug__" : Str)) = false := by decide) (hcd : (y == ("__classdict__" : Str)) = false := by decide) : PD X wx M [] U2 (.Subscript (.Name y py) c pos) (eIxM i eb) := by
  have hM : i ∈ M := by simpa using hM
  refine pe_imp (pe_ix ix_seq (pe_var hN hv hd hcd) hb hs) fun σ H Q ⟨δ, b, L, fin⟩ => ?_
  unfold eIxM at fin
  cases e0 : getL i δ with
  | none => rw [e0] at fin; exact fin.elim
  | some bc =>
    rw [e0] at fin
    obtain ⟨p, _, _, es, _⟩ := getSlotM (L.mu i hM) (getL_of e0)
    refine ⟨_, es, δ, b, L, ?_⟩
    dsimp only at fin
    cases e1 : eb δ with
    | bad => rw [e1] at fin; exact fin
    | exc c g x e' => rw [e1] at fin; exact fin
    | ok k δ1 =>
      rw [e1] at fin
      intro v H1 p1
      simp only [R.bind] at fin
      cases e2 : getL i δ1 with
      | none => rw [e2] at fin; exact fin.elim
      | some xs =>
        rw [e2] at fin
        dsimp only at fin
        cases e3 : atD (.list xs) k with
        | none => rw [e3] at fin; exact fin.elim
        | some z =>
          rw [e3] at fin
          obtain ⟨p', ws, ds', es', ebc, hp, rB, hB, hZ⟩ := getSlotM (p1.loc.mu i hM) (getL_of e2)
          rw [es] at es'
          cases es'
          cases ebc
          cases k with
          | int n =>
            have e3 : atI xs n = some z := e3
            obtain ⟨u, h1, h2⟩ := atI_pair rB e3
            have rk := p1.rp
            cases rk
            exact .inl ⟨p, ws, n, u, rfl, rfl, .inl (.inl hp), h1, fin u H1 ⟨p1.loc, p1.gr, h2.mono (fun _ h => .inr h) (Ext.refl _).kp⟩⟩
          | _ => simp [atD] at e3
theorem pid_seqM (i : Nat) {tg : Expr} {y : Str} {py : Pos} (hM : M.contains i = true := by rfl) (hN : X.N[i]? = some y := by rfl) (hv : Vis X.env.scope y := by first | exact Or.inl rfl | exact Or.inr (Or.inl rfl) | exact Or.inr (Or.inr rfl))
    (hd : (y == ("__debug__" : Str)) = false := by decide) (hcd : (y == ("__classdict__" : Str)) = false := by decide) : PID X wx M [i] [] [] tg (.Name y py) (iSq (eVar i)) := by
  have hM : i ∈ M := by simpa using hM
  refine pi_imp (pi_seq (pe_var hN hv hd hcd)) fun σ H Q ⟨δ, b, L, fin⟩ => ?_
  unfold iSq at fin
  cases e : eVar i δ with
  | bad => rw [e] at fin; exact fin.elim
  | exc c g x e' =>
    exact (eVar_exc e).elim
  | ok d δ' =>
    obtain ⟨e1, rfl⟩ := eVar_ok e
    rw [e] at fin
    obtain ⟨p, vs, ds, e2, rfl, h1, r, hB, hZ⟩ := getSlotM (L.mu i hM) e1
    have fin : FinI X.K X.mg wx M [i] [] [] b σ H (.ok ds δ') Q := fin
    have st : ∀ {H'}, Kp (SW M [i] b σ) H H' → H' p = some (.lst vs) := fun {H'} k => k.at_ p _ (.inl ⟨i, by simp, e2⟩) h1
    refine ⟨_, e2, p, false, rfl, ⟨vs, .inl (.inl h1)⟩, fin _ H L (Gr.refl _ _ _) ⟨fun j H2 k hj => ?_, fun H2 k => ⟨vs, .inl (.inl (st k)), by rw [r.length]; exact Nat.le_refl _⟩, fun j H2 x H3 k hj y => ?_⟩⟩
    · have hj' : j < vs.length := by rw [r.length]; exact hj
      exact ⟨vs, vs[j], .inl (.inl (st k)), by simp [hj']⟩
    · obtain ⟨rfl, y⟩ := y
      obtain ⟨d, q1, q2⟩ := r.get (y vs (.inl (.inl (st k))))
      exact ⟨Ext.refl _, d, q1, (q2.mono (fun _ h => .inr h) (Ext.refl _).kp : Rp X.K (SW M [] b σ) H x d).trk.mono (fun _ h => .inl h) (k.sub fun q h => h.1.sub (fun _ z => by simp at z))⟩
/-- what an operation makes of the items of one list -/
def OpL (K : PySem.W.Frag) (r : List V → Hp → VK → Prop) (f : List PyData → Option PyData) : Prop :=
  ∀ (S : Addr → Prop) (H : Hp) (p : Addr) (xs : List V) (ds : List PyData) (d : PyData) (Q : VK), H p = some (.lst xs) → RpA K S H xs ds → f ds = some d →
    (∀ v H', Ext H H' → Rp K (fun p => S p ∨ H p = none) H' v d → Q v H') → r [.ref p] H Q
def OpLF (K : PySem.W.Frag) (r : List V → Hp → VK → Prop) (f : List PyData → Option (List PyData)) : Prop :=
  ∀ (S : Addr → Prop) (H : Hp) (p : Addr) (xs : List V) (ds es : List PyData) (Q : VK), H p = some (.lst xs) → RpA K S H xs ds → f ds = some es →
    (∀ q vs, H q = none → RpA K S H vs es → Q (.ref q) (upd H q (.lst vs))) → r [.ref p] H Q
def eCel (i : Nat) (f : List PyData → Option PyData) : Ev := fun δ => match getL i δ with
  | none => .bad
  | some xs => ofO (f xs) δ
theorem tD_cel {mg : Str → Option Value} {i : Nat} {r : List V → Hp → VK → Prop} {f : List PyData → Option PyData} {σ : L2.St} {H : Hp} {Q : VK} (hf : OpL K r f) (hM : M.contains i = true) (h : tD K mg wx M [] [] (eCel i f) σ H Q) : tVar i σ H fun x H1 => r [x] H1 Q := by
  have hM : i ∈ M := by simpa using hM
  obtain ⟨δ, b, L, fin⟩ := h
  unfold eCel at fin
  cases e0 : getL i δ with
  | none => rw [e0] at fin; exact fin.elim
  | some xs =>
    rw [e0] at fin
    obtain ⟨p, vs, ds, es, ebc, hp, rB, hB, hZ⟩ := getSlotM (L.mu i hM) (getL_of e0)
    cases ebc
    refine ⟨_, es, ?_⟩
    dsimp only at fin
    cases e1 : f xs with
    | none => rw [e1] at fin; exact fin.elim
    | some d =>
      rw [e1] at fin
      exact hf (Sb M b σ) H p vs xs d Q hp rB e1 fun v H' ex rv => fin_op fin L (Gr.refl _ _ _) ex (rv.mono (fun q h => h.imp (fun h => .inr h) id) (Ext.refl _).kp)
theorem tDF_cel {mg : Str → Option Value} {i : Nat} {r : List V → Hp → VK → Prop} {f : List PyData → Option (List PyData)} {σ : L2.St} {H : Hp} {Q : VK} (hf : OpLF K r f) (hM : M.contains i = true) (h : tDF K mg wx M [] (eCel i (fun ds => (f ds).map .list)) σ H Q) : tVar i σ H fun x H1 => r [x] H1 Q := by
  have hM : i ∈ M := by simpa using hM
  obtain ⟨δ, b, L, fin⟩ := h
  unfold eCel at fin
  cases e0 : getL i δ with
  | none => rw [e0] at fin; exact fin.elim
  | some xs =>
    rw [e0] at fin
    obtain ⟨p, vs, ds, es, ebc, hp, rB, hB, hZ⟩ := getSlotM (L.mu i hM) (getL_of e0)
    cases ebc
    refine ⟨_, es, ?_⟩
    dsimp only at fin
    cases e1 : f xs with
    | none => rw [e1] at fin; exact fin.elim
    | some d =>
      rw [e1] at fin
      exact hf (Sb M b σ) H p vs xs d Q hp rB e1 fun q ws nq rv => finF_op fin L (Gr.refl _ _ _) rfl nq (rv.mono (fun q h => .inr h) (Ext.refl _).kp)
section
variable {id : String} {r : List V → Hp → VK → Prop} {f : List PyData → Option PyData} {fF : List PyData → Option (List PyData)} {x y : Str} {p py pos : Pos}
theorem pd_celT (i : Nat) (hc : CallR X (.type id) r) (hf : OpL X.K r f) (hm : X.mg x = none) (hv : bootBuiltins x = some (.type id)) (hM : M.contains i = true := by rfl) (hN : X.N[i]? = some y := by rfl) (hvs : Vis X.env.scope y := by first | exact Or.inl rfl | exact Or.inr (Or.inl rfl) | exact Or.inr (Or.inr rfl))
    (hd : (y == ("__debug__" : Str)) = false := by decide) (hcd : (y == ("__classdict__" : Str)) = false := by decide) (hg : Gl X x := by rfl) (hn : x ≠ "__name__" := by decide) (hdb : (x == ("__debug__" : Str)) = false := by decide)
    (he : starEach [.Name y py] X.env = (false, eval (.Name y py) X.env) :: starEach [] X.env := by rfl) (hpl : (backTo pos (starEach [] X.env)).any (·.1) = false := by rfl) :
    PD X wx M [] [] (.Call (.Name x p) [.Name y py] [] pos) (eCel i f) :=
  pe_imp (pe_callTy hc hg hm hv (pa_cons (pe_var hN hvs hd hcd) pa_nil he) hn hdb he hpl) fun σ H Q h => tD_cel hf hM h
theorem pd_celB (i : Nat) (hc : CallR X (.builtin id) r) (hf : OpL X.K r f) (hm : X.mg x = none) (hv : bootBuiltins x = some (.builtin id)) (hM : M.contains i = true := by rfl) (hN : X.N[i]? = some y := by rfl) (hvs : Vis X.env.scope y := by first | exact Or.inl rfl | exact Or.inr (Or.inl rfl) | exact Or.inr (Or.inr rfl))
    (hd : (y == ("__debug__" : Str)) = false := by decide) (hcd : (y == ("__classdict__" : Str)) = false := by decide) (hg : Gl X x := by rfl) (hn : x ≠ "__name__" := by decide) (hdb : (x == ("__debug__" : Str)) = false := by decide)
    (he : starEach [.Name y py] X.env = (false, eval (.Name y py) X.env) :: starEach [] X.env := by rfl) (hpl : (backTo pos (starEach [] X.env)).any (·.1) = false := by rfl) :
    PD X wx M [] [] (.Call (.Name x p) [.Name y py] [] pos) (eCel i f) :=
  pe_imp (pe_callB hc hg hm hv (pa_cons (pe_var hN hvs hd hcd) pa_nil he) hn hdb he hpl) fun σ H Q h => tD_cel hf hM h
theorem pfd_celT (i : Nat) (hc : CallR X (.type id) r) (hf : OpLF X.K r fF) (hm : X.mg x = none) (hv : bootBuiltins x = some (.type id)) (hM : M.contains i = true := by rfl) (hN : X.N[i]? = some y := by rfl) (hvs : Vis X.env.scope y := by first | exact Or.inl rfl | exact Or.inr (Or.inl rfl) | exact Or.inr (Or.inr rfl))
    (hd : (y == ("__debug__" : Str)) = false := by decide) (hcd : (y == ("__classdict__" : Str)) = false := by decide) (hg : Gl X x := by rfl) (hn : x ≠ "__name__" := by decide) (hdb : (x == ("__debug__" : Str)) = false := by decide)
    (he : starEach [.Name y py] X.env = (false, eval (.Name y py) X.env) :: starEach [] X.env := by rfl) (hpl : (backTo pos (starEach [] X.env)).any (·.1) = false := by rfl) :
    PFD X wx M [] (.Call (.Name x p) [.Name y py] [] pos) (eCel i (fun ds => (fF ds).map .list)) :=
  pe_imp (pe_callTy hc hg hm hv (pa_cons (pe_var hN hvs hd hcd) pa_nil he) hn hdb he hpl) fun σ H Q h => tDF_cel hf hM h
theorem pfd_celB (i : Nat) (hc : CallR X (.builtin id) r) (hf : OpLF X.K r fF) (hm : X.mg x = none) (hv : bootBuiltins x = some (.builtin id)) (hM : M.contains i = true := by rfl) (hN : X.N[i]? = some y := by rfl) (hvs : Vis X.env.scope y := by first | exact Or.inl rfl | exact Or.inr (Or.inl rfl) | exact Or.inr (Or.inr rfl))
    (hd : (y == ("__debug__" : Str)) = false := by decide) (hcd : (y == ("__classdict__" : Str)) = false := by decide) (hg : Gl X x := by rfl) (hn : x ≠ "__name__" := by decide) (hdb : (x == ("__debug__" : Str)) = false := by decide)
    (he : starEach [.Name y py] X.env = (false, eval (.Name y py) X.env) :: starEach [] X.env := by rfl) (hpl : (backTo pos (starEach [] X.env)).any (·.1) = false := by rfl) :
    PFD X wx M [] (.Call (.Name x p) [.Name y py] [] pos) (eCel i (fun ds => (fF ds).map .list)) :=
  pe_imp (pe_callB hc hg hm hv (pa_cons (pe_var hN hvs hd hcd) pa_nil he) hn hdb he hpl) fun σ H Q h => tDF_cel hf hM h
end
def someT (ds : List PyData) : Option PyData := some (.tuple ds)
theorem opL_tuple : OpL K (fun xs H Q => ∃ p ys, xs = [.ref p] ∧ ((SqL K H p ys ∧ ∀ l, H l = none → Q (.ref l) (upd H l (.tup ys))) ∨ (SqT K H p ys ∧ Q (.ref p) H))) someT := by
  intro S H p xs ds d Q hp r e q
  cases e
  exact ⟨p, xs, rfl, .inl ⟨.inl (.inl hp), fun l nl => q _ _ (Ext.upd nl) (.tup (.inl (.inl upd_same)) (r.ext (fun _ h => .inl h) (Ext.upd nl)))⟩⟩
theorem opLF_list : OpLF K (fun xs H Q => ∃ p ys, xs = [.ref p] ∧ (SqL K H p ys ∨ SqT K H p ys) ∧ ∀ l, H l = none → Q (.ref l) (upd H l (.lst ys))) some := by
  intro S H p xs ds d Q hp r e q
  cases e
  exact ⟨p, xs, rfl, .inl (.inl (.inl hp)), fun l nl => q l _ nl r⟩
/-! ### minus -/
def negD : PyData → Option PyData
  | .int i => some (.int (-i))
  | _ => none
theorem op1_neg : Op1 K (rU fun i => .int (-i)) negD := by
  intro S H x da d Q rx e q
  cases rx with
  | int i => cases e; exact ⟨i, rfl, q _ H (Ext.refl H) (.int _)⟩
  | _ => simp [negD] at e
/-! ### backwards -/
def revF : PyData → Option (List PyData)
  | .list xs => some xs.reverse
  | _ => none
def eRev (a : Ev) : Ev := fun δ => (a δ).bind fun x δ1 => ofO ((revF x).map .list) δ1
theorem pfd_rev {e : Expr} {ea : Ev} {k : Nat} {p1 p2 p3 pos : Pos} (ha : PD X wx M W U e ea) (hW : W.isEmpty = true := by rfl) (hU : sb U M = true := by rfl) :
    PFD X wx M U (.Subscript e (.Slice none none (some (.UnaryOp .USub (.Constant (.int 1) k p1) p2)) p3) pos) (eRev ea) := by
  have hW : W = [] := by simpa using hW
  subst hW
  refine pe_imp (pe_revL ha) fun σ H Q ⟨δ, b, L, fin⟩ => ⟨δ, b, L, ?_⟩
  unfold eRev at fin
  cases e1 : ea δ with
  | bad => rw [e1] at fin; exact fin
  | exc c g x e' => rw [e1] at fin; exact fin
  | ok d δ1 =>
    rw [e1] at fin
    intro v H1 p
    simp only [R.bind] at fin
    have rr := p.rp
    cases rr with
    | lst h t => exact ⟨_, _, rfl, h.sq, fun q nq => finF_op fin p.loc p.gr hU nq t.rev⟩
    | _ => exact fin.elim
theorem iop_mulI : OpR X (inplaceOp .Mult) (rI CMul fun i j => .int (i * j)) := iop_mul
def mulS (i j : Int) : Bool := decide (i.natAbs < 2 ^ 64) || decide (j.natAbs < 2 ^ 64)
theorem op2_mulS : Op2 K (rI CMul fun i j => .int (i * j)) (i2 mulS fun i j => i * j) := op2_i2 fun i j h => by
  unfold mulS at h
  rw [Bool.or_eq_true, decide_eq_true_eq, decide_eq_true_eq] at h
  rcases h with h | h
  · exact .inl ⟨by omega, by omega⟩
  · exact .inr ⟨by omega, by omega⟩
end
/-- names for the pure part -/
abbrev divD : PyData → PyData → Option PyData := i2 divC fun i j => i / j
abbrev modD : PyData → PyData → Option PyData := i2 modC fun i j => i % j
abbrev powD : PyData → PyData → Option PyData := i2 powC fun i j => i ^ j.toNat
end BD
namespace BD
open PySem PySem.Spec PyProof.Rows L2
open PySem (sizeLine_eq)
/-! ### the law's call -/
abbrev EndOk (t : Shared) : Result → Shared → Prop := fun res t' => res = .ok (.ret (.bool true)) ∧ OldK t.heap t'.heap ∧ t'.os = t.os ∧ AllBare t'.gens
section
variable {P : Program} {w : World} {K : PySem.W.Frag} {mg mb : Str → Option Value} {k : Nat} {fa scr : Addr} {fd : FuncData} {par : Str} {sp : Sp} {t : Shared} {vals : List Value} {nums : List Int}
/-- from a heap in which at most the script is tracked -/
theorem call_core (inK : K.In t.heap) (nsG : t.heap.Ns mainGlobals mg) (nsB : t.heap.Ns builtinsNs mb) (bEq : ∀ y : Str, y ≠ "__name__" → mb y = bootBuiltins y) (noLim : t.heap.NoLimit) (noGen : t.gens = #[])
    (obj : t.heap.get? scr = some { cls := .type "list", data := .seq vals.toArray }) (room : RoomG k callerA)
    (keeps : ∀ base : Heap, K.In base → base.Ns mainGlobals mg → FnG P w K mg base k fa fd [par] sp) (bnd : ∀ (z : Shared) (u : Value), BindsTo z fd ⟨[u], []⟩ [(par, u)])
    (H : Hp) (only : Only H) (want : sp [.ref scr] H (fun v _ => v = .bl true) fun _ _ _ => False) (ok : HOk P w H t.heap) (at_ : ∀ q, H q ≠ none → q = scr) (notK : H scr ≠ none → K.lookup scr = none) :
    codeAny (model P w) callerA (.call (.ref fa) ⟨[.ref scr], []⟩) (EndOk t) t := by
  have hid : ∀ {q : Addr} {o : Obj}, t.heap.get? q = some o → H q = none → (hidT t.heap H).get? q = some o := fun e n => hidT_get e n
  have noDict : ∀ {q : Addr} {o : Obj} {es : Array DictEntry} {ep : Nat}, t.heap.get? q = some o → o.data = .dict es ep → H q = none := by
    intro q o es ep e d
    by_cases z : H q = none
    · exact z
    · have := at_ q z
      subst this
      rw [obj] at e
      cases e
      exact absurd d (by intro y; cases y)
  have nsOf : ∀ {q : Addr} {m : Str → Option Value}, t.heap.Ns q m → (hidT t.heap H).Ns q m := by
    rintro q m ⟨o, es, ep, e, d, r⟩
    exact ⟨o, es, ep, hid e (noDict e d), d, r⟩
  have baseK : K.In (hidT t.heap H) := by
    intro q o e
    refine hid (inK q o e) ?_
    by_cases z : H q = none
    · exact z
    · have := at_ q z
      subst this
      rw [notK z] at e
      cases e
  obtain ⟨mc, lim1, lim2⟩ := noLim
  have modOk : Mod K mg (hidT t.heap H) := ⟨baseK, nsOf nsG, ⟨mb, nsOf nsB, bEq⟩, ⟨mc, nsOf lim1, lim2⟩⟩
  have e0 : Env0 P w K mg (hidT t.heap H) callerA [] t H :=
    ⟨rfl, modOk, fun q o e => of_hidT e, Nat.le_of_eq (hidT_size _ _), trivial, fun q hq => absurd (show q ∈ ([] : List Addr) from hq) (by simp), ok, .of_eq noGen⟩
  have rv : Vals [V.ref scr] [Value.ref scr] := .cons rfl .nil
  refine codeAny_mono ((keeps _ baseK (nsOf nsG)).go callerA [] t H ⟨[.ref scr], []⟩ [.ref scr] [.ref scr] _ _ room e0 (bnd t (.ref scr)) rv want) fun res t' got => ?_
  cases res with
  | error er =>
    obtain ⟨_, _, _, _, _, _, _, _, _, _, _, _, z⟩ := (show L2.CX P w [] H t (fun _ _ _ => False) er t' from got)
    exact z.elim
  | ok fl =>
    cases fl with
    | next => exact False.elim got
    | brk => exact False.elim got
    | cont => exact False.elim got
    | ret u =>
      obtain ⟨v, H2, sameOs, bare, un, ok2, rel, isT⟩ := got
      have isT : v = .bl true := isT
      subst isT
      obtain rfl : u = Value.bool true := rel
      refine ⟨rfl, OldK.of_keep fun q o e => ?_, sameOs, bare⟩
      by_cases z : H q = none
      · exact un.keep q o e z (fun y => absurd (show q ∈ ([] : List Addr) from y) (by simp)) (by simp)
      · rcases only q with y | ⟨ob, ys, y⟩
        · exact absurd y z
        · have y2 := un.frzs q ob _ y
          have g1 := (ok q _ y).1
          have g2 := (ok2 q _ y2).1
          rw [e] at g1
          cases g1
          exact g2
theorem law_run (inK : K.In t.heap) (nsG : t.heap.Ns mainGlobals mg) (nsB : t.heap.Ns builtinsNs mb) (bEq : ∀ y : Str, y ≠ "__name__" → mb y = bootBuiltins y) (noLim : t.heap.NoLimit) (noGen : t.gens = #[])
    (obj : t.heap.get? scr = some { cls := .type "list", data := .seq vals.toArray }) (areI : IntsAre vals nums) (few : nums.length ≤ sizeLine) (room : RoomG k callerA)
    (keeps : ∀ base : Heap, K.In base → base.Ns mainGlobals mg → FnG P w K mg base k fa fd [par] sp) (bnd : ∀ (z : Shared) (u : Value), BindsTo z fd ⟨[u], []⟩ [(par, u)])
    (want : ∀ H : Hp, SqL K H scr (nums.map V.int) → sp [.ref scr] H (fun v _ => v = .bl true) fun _ _ _ => False) :
    codeAny (model P w) callerA (.call (.ref fa) ⟨[.ref scr], []⟩) (EndOk t) t := by
  have rel := vals_ints areI
  have same := areI.length
  by_cases hk : K.lookup scr = none
  · have e0 : (fun q => if q = scr then some (HO.frz { cls := .type "list", data := .seq vals.toArray } (.lst (nums.map V.int))) else none : Hp) scr = some (HO.frz { cls := .type "list", data := .seq vals.toArray } (.lst (nums.map V.int))) := if_pos rfl
    refine call_core inK nsG nsB bEq noLim noGen obj room keeps bnd (fun q => if q = scr then some (.frz { cls := .type "list", data := .seq vals.toArray } (.lst (nums.map V.int))) else none) ?_ (want _ (.inl (.inr ⟨_, e0⟩))) ?_ ?_ fun _ => hk
    · intro q
      by_cases y : q = scr
      · exact .inr ⟨_, _, if_pos y⟩
      · exact .inl (if_neg y)
    · intro q u e
      by_cases y : q = scr
      · subst y
        rw [e0] at e
        cases e
        exact ⟨obj, by rw [List.length_map]; exact few, vals, _, rel, obj⟩
      · have e : (if q = scr then some (HO.frz { cls := .type "list", data := .seq vals.toArray } (.lst (nums.map V.int))) else none) = some u := e
        rw [if_neg y] at e
        cases e
    · intro q y
      by_cases z : q = scr
      · exact z
      · exact absurd (if_neg z) y
  · obtain ⟨o, ho⟩ := Option.ne_none_iff_exists'.mp hk
    have e := inK scr o ho
    rw [obj] at e
    cases e
    have sq : SqL K (fun _ => none) scr (nums.map V.int) := .inr ⟨_, vals.toArray, _, ho, rfl, rfl, rfl, by rw [List.size_toArray, same]; exact few, by simpa using rel⟩
    exact call_core inK nsG nsB bEq noLim noGen obj room keeps bnd (fun _ => none) (fun _ => .inl rfl) (want _ sq) (fun q u z => by cases (show (none : Option HO) = some u from z)) (fun q z => absurd rfl z) fun z => absurd rfl z
end
/-- the goal behind the head -/
theorem walkG {l : PySem.W.OpenLaw} {n k : Nat} {q : Program} {loose : List Str} {XP : (Str → Option Value) → Heap → Prop} {YP : World → Heap → Prop} {d : DefRec} {K : Params → PySem.W.Frag} {par : Str} {sp : World → Sp} (hn : l.most = some n) (hn2 : n ≤ sizeLine) (hdf : d.params.defaults = []) (room : RoomG k callerA)
    (hY : ∀ (w : World) (h : Heap), YP w h → (K w.params).In h)
    (F : ∀ (w : World) (mg : Str → Option Value) (fa : Addr) (h : Heap), (K w.params).In h → h.Ns mainGlobals mg → mg d.name = some (.ref fa) →
      ∃ fd : FuncData, (∀ (s : Shared) (u : Value), BindsTo s fd ⟨[u], []⟩ [(par, u)]) ∧ ∀ base : Heap, (K w.params).In base → base.Ns mainGlobals mg → FnG l.prog w (K w.params) mg base k fa fd [par] (sp w))
    (hsp : ∀ (w : World) (H : Hp) (a : Addr) (ns : List Int), ns.length ≤ n → SqL (K w.params) H a (ns.map V.int) → sp w [.ref a] H (fun v _ => v = .bl true) fun _ _ _ => False) :
    PySem.W.WalkO q loose XP YP l.row.toRowW d [] (fun f vs => PySem.call f vs) := by
  refine Att.attach_call hn hdf fun w s₀ s₁ mg mb fa o pm cd doc a vs ns G Y ho hd hcd hmg hobj hints hlen hg => ?_
  have KX := hY w _ Y
  obtain ⟨fd, hb, hF⟩ := F w mg fa _ KX G.T.g hmg
  exact law_run KX G.T.g G.T.b G.T.builtins G.T.nolimit hg hobj hints (Nat.le_trans hlen hn2) room hF hb fun H hS => hsp w H a ns hlen hS
/-- a def stands at the top: what the written part tells -/
theorem At.of {K : PySem.W.Frag} {mg : Str → Option Value} {h : Heap} {x : Str} {st : Stmt} {ps : List Str} {f : Addr} {oc : Value} {od an : Option Addr} {osl : Array (Option Value)} {kV doc pm cdv ct : Value} (X : K.In h) (G : h.Ns mainGlobals mg)
    (a : PySem.W.nsIn K mainGlobals x = some (some (.ref f))) (l : K.lookup f = some ⟨oc, od, .func (PySem.W.fnOf x x (defArgs st) (defBody st) (defScope st) .none kV doc pm an cdv ct), osl⟩) (c : PySem.W.codeIn K cdv x = true) (k : PySem.W.keepIn K (.ref f) = true)
    (hb : ∀ (kV doc pm : Value) (an : Option Addr) (cdv ct : Value) (us : List Value), us.length = ps.length → bindArgs (PySem.W.fnOf x x (defArgs st) (defBody st) (defScope st) .none kV doc pm an cdv ct) ⟨us, []⟩ = pure (ps.zip us)) : At K mg x st ps :=
  ⟨f, _, PySem.W.mg_of X G a, fun_mk (st := st) l c k, hb _ _ _ _ _ _⟩
/-- what the law's def promises -/
def SpL (K : PySem.W.Frag) : Sp := fun vs H Q _ => ∃ (a : Addr) (ns : List Int), vs = [.ref a] ∧ ns.length ≤ 63 ∧ SqL K H a (ns.map V.int) ∧ ∀ H', Q (.bl true) H'
theorem law_sp {K : PySem.W.Frag} {mg : Str → Option Value} {g : List PyData → FR} (pure : ∀ ns : List Int, ns.length ≤ 63 → ∃ o, g [.list (ns.map .int)] = .ok (.bool true) o) (vs : List V) (H : Hp) (Q : VK) (E : XK) (h : SpL K vs H Q E) : SpP K mg 1 false g vs H Q E := by
  obtain ⟨a, ns, rfl, hl, hS, q⟩ := h
  obtain ⟨o, e⟩ := pure ns hl
  have ri : ∀ (zs : List Int), RpA K (fun _ => True) H (zs.map V.int) (zs.map .int) := fun zs => by
    induction zs with
    | nil => exact .nil
    | cons z r ih => exact .cons (.int z) ih
  have sl : SL K (fun _ => True) H a (ns.map V.int) := by
    rcases hS with h | h
    · exact .inl ⟨trivial, h⟩
    · exact .inr (.inr h)
  refine ⟨rfl, [.list (ns.map .int)], fun _ => True, .one (.lst sl (ri ns)), ?_⟩
  rw [e]
  intro v H' _ r _
  cases r
  exact q H'
/-- the law's def at the end -/
theorem law_end {P : Program} {w : World} {K : PySem.W.Frag} {mg : Str → Option Value} {fa : Addr} {k : Nat} {x par : Str} {st : Stmt} {g : List PyData → FR} (hfa : mg x = some (.ref fa)) (A : At K mg x st [par]) (D : ∀ base : Heap, DP P w K mg base k x st [par] 1 false g)
    (pure : ∀ ns : List Int, ns.length ≤ 63 → ∃ o, g [.list (ns.map .int)] = .ok (.bool true) o) (uq : ∀ {f f' : Addr} {fd fd' : FuncData}, f = f' → Fun K x x st f fd → Fun K x x st f' fd' → fd = fd' := by
      intro f f' fd fd' e F F'
      subst e
      obtain ⟨_, _, _, _, _, _, _, _, _, e1, l1, _⟩ := F.ex
      obtain ⟨_, _, _, _, _, _, _, _, _, e2, l2, _⟩ := F'.ex
      rw [l1] at l2
      cases l2
      rfl) :
    ∃ fd : FuncData, (∀ (s : Shared) (u : Value), BindsTo s fd ⟨[u], []⟩ [(par, u)]) ∧ ∀ base : Heap, FnG P w K mg base k fa fd [par] (SpL K) := by
  obtain ⟨f, fd, h1, h2, h3⟩ := A.ex
  rw [hfa] at h1
  cases h1
  refine ⟨fd, fun s u => .of_eq (h3 [u] rfl), fun base => ?_⟩
  obtain ⟨f', fd', F, q1, q2, _⟩ := (D base).ex
  rw [hfa] at q1
  cases q1
  have := uq rfl h2 q2
  subst this
  exact F.imp (law_sp pure)
theorem walkL {l : PySem.W.OpenLaw} {k : Nat} {q : Program} {loose : List Str} {XP : (Str → Option Value) → Heap → Prop} {YP : World → Heap → Prop} {d : DefRec} {K : Params → PySem.W.Frag} {par : Str} (hn : l.most = some 63) (hdf : d.params.defaults = []) (room : RoomG k callerA)
    (hY : ∀ (w : World) (h : Heap), YP w h → (K w.params).In h)
    (F : ∀ (w : World) (mg : Str → Option Value) (fa : Addr) (h : Heap), (K w.params).In h → h.Ns mainGlobals mg → mg d.name = some (.ref fa) →
      ∃ fd : FuncData, (∀ (s : Shared) (u : Value), BindsTo s fd ⟨[u], []⟩ [(par, u)]) ∧ ∀ base : Heap, FnG l.prog w (K w.params) mg base k fa fd [par] (SpL (K w.params))) :
    PySem.W.WalkO q loose XP YP l.row.toRowW d [] (fun f vs => PySem.call f vs) :=
  walkG (n := 63) (sp := fun w => SpL (K w.params)) hn (by decide) hdf room hY (fun w mg fa h a b c => let ⟨fd, h1, h2⟩ := F w mg fa h a b c; ⟨fd, h1, fun base _ _ => h2 base⟩) fun w H a ns hl hS => ⟨a, ns, rfl, hl, hS, fun _ => rfl⟩
end BD
namespace BD
open PySem
/-! ### plain evaluation -/
theorem sq_nx {s t : Sv} {δ δ' : Env} (h : s δ = .nx δ') : sSeq s t δ = t δ' := by unfold sSeq; rw [h]
theorem sq_rt {s t : Sv} {δ δ' : Env} {d : PyData} (h : s δ = .rt d δ') : sSeq s t δ = .rt d δ' := by unfold sSeq; rw [h]
theorem sq_nil {s : Sv} {δ : Env} : sSeq s sNil δ = s δ := by
  unfold sSeq sNil
  split
  · rename_i e; rw [e]
  · rfl
theorem if_t {t : Env → R Bool} {s u : Sv} {δ δ' : Env} (h : t δ = .ok true δ') : sIf t s u δ = s δ' := by unfold sIf; rw [h]; rfl
theorem if_f {t : Env → R Bool} {s u : Sv} {δ δ' : Env} (h : t δ = .ok false δ') : sIf t s u δ = u δ' := by unfold sIf; rw [h]; rfl
theorem asg_ {ev : Ev} {i : Nat} {δ δ' : Env} {d : PyData} (h : ev δ = .ok d δ') : sAsg i ev δ = .nx (δ'.set i (some d)) := by unfold sAsg liftR; rw [h]
theorem ret_ {ev : Ev} {δ δ' : Env} {d : PyData} (h : ev δ = .ok d δ') : sRet ev δ = .rt d δ' := by unfold sRet liftR; rw [h]
theorem exp_ {ev : Ev} {δ δ' : Env} {d : PyData} (h : ev δ = .ok d δ') : sExpr ev δ = .nx δ' := by unfold sExpr liftR; rw [h]
theorem bin_ {f : PyData → PyData → Option PyData} {a b : Ev} {δ δ1 δ2 : Env} {x y z : PyData} (ha : a δ = .ok x δ1) (hb : b δ1 = .ok y δ2) (hf : f x y = some z) : eBin f a b δ = .ok z δ2 := by
  unfold eBin; simp only [ha, R.bind, hb, hf, ofO]
theorem tcmp_ {f : PyData → PyData → Option Bool} {a b : Ev} {δ δ1 δ2 : Env} {x y : PyData} {z : Bool} (ha : a δ = .ok x δ1) (hb : b δ1 = .ok y δ2) (hf : f x y = some z) : BD.tCmp f a b δ = .ok z δ2 := by
  unfold BD.tCmp; simp only [ha, R.bind, hb, hf, ofO]
theorem cmp_ {f : PyData → PyData → Option Bool} {a b : Ev} {δ δ1 δ2 : Env} {x y : PyData} {z : Bool} (ha : a δ = .ok x δ1) (hb : b δ1 = .ok y δ2) (hf : f x y = some z) : eCmp f a b δ = .ok (.bool z) δ2 := by
  unfold eCmp eBin; simp only [ha, R.bind, hb, hf, ofO, Option.map_some]
theorem cons_ {a : Ev} {b : Env → R (List PyData)} {δ δ1 δ2 : Env} {x : PyData} {ys : List PyData} (ha : a δ = .ok x δ1) (hb : b δ1 = .ok ys δ2) : eCons a b δ = .ok (x :: ys) δ2 := by
  unfold eCons; simp only [ha, R.bind, hb]
theorem nil_ {δ : Env} : eNil δ = .ok [] δ := rfl
theorem app_ {f : List PyData → Option PyData} {a : Env → R (List PyData)} {δ δ1 : Env} {xs : List PyData} {z : PyData} (ha : a δ = .ok xs δ1) (hf : f xs = some z) : eApp f a δ = .ok z δ1 := by
  unfold eApp; simp only [ha, R.bind, hf, ofO]
theorem appF_ {f : List PyData → Option (List PyData)} {a : Env → R (List PyData)} {δ δ1 : Env} {xs : List PyData} {z : List PyData} (ha : a δ = .ok xs δ1) (hf : f xs = some z) : eAppF f a δ = .ok (.list z) δ1 := by
  unfold eAppF; simp only [ha, R.bind, hf, ofO, Option.map_some]
theorem callB_ {i n : Nat} {f : List PyData → List PyData → FR} {args : Env → R (List PyData)} {δ δ1 : Env} {bc bc0 out : List PyData} {ds : List PyData} {d : PyData} (h0 : getL i δ = some bc0) (ha : args δ = .ok ds δ1) (h1 : getL i δ1 = some bc) (hn : ds.length + 1 = n) (hf : f bc ds = .ok d out) (hl : lfreeA out = true) :
    eCallB i n f args δ = .ok d (δ1.set i (some (.list out))) := by
  unfold eCallB; simp only [h0, ha, R.bind, h1, hn, if_true, hf, frB, hl]
theorem callT_ {n : Nat} {f : List PyData → List PyData → FR} {a : Ev} {args : Env → R (List PyData)} {δ δ0 δ1 : Env} {bc out : List PyData} {ds : List PyData} {d : PyData} (h0 : a δ = .ok (.list bc) δ0) (ha : args δ0 = .ok ds δ1) (hn : ds.length + 1 = n) (hf : f bc ds = .ok d out) :
    eCallT n f a args δ = .ok d δ1 := by
  unfold eCallT; simp only [h0, ha, R.bind, hn, if_true, hf, frT]
theorem callP_ {n : Nat} {ix : Option (List Nat)} {f : List PyData → FR} {args : Env → R (List PyData)} {δ δ1 : Env} {ds out : List PyData} {d : PyData} (ha : args δ = .ok ds δ1) (hn : (pickO ix ds).length = n) (hf : f (pickO ix ds) = .ok d out) : eCallP n ix f args δ = .ok d δ1 := by
  unfold eCallP; simp only [ha, R.bind, hn, if_true, hf, frR]
theorem apd_ {n m : Nat} {a c : Env → R (List PyData)} {δ δ1 δ2 : Env} {ds es : List PyData} (ha : a δ = .ok ds δ1) (hc : c δ1 = .ok es δ2) (h1 : ds.length = n) (h2 : es.length = m) : eApd n m a c δ = .ok (ds ++ es) δ2 := by
  unfold eApd; simp only [ha, R.bind, hc, h1, h2, and_self, if_true]
theorem ixM_ {i : Nat} {eb : Ev} {δ δ1 : Env} {xs0 xs : List PyData} {k d : PyData} (h0 : getL i δ = some xs0) (hb : eb δ = .ok k δ1) (h1 : getL i δ1 = some xs) (hd : atD (.list xs) k = some d) : eIxM i eb δ = .ok d δ1 := by
  unfold eIxM; simp only [h0, hb, R.bind, h1, hd, ofO]
theorem sto_ {i : Nat} {ei ev : Ev} {δ δ1 δ2 : Env} {d : PyData} {j : Int} {xs0 xs ys : List PyData} (hv : ev δ = .ok d δ1) (h0 : getL i δ1 = some xs0) (hi : ei δ1 = .ok (.int j) δ2) (h1 : getL i δ2 = some xs) (hs : setI xs j d = some ys) : sSto i ei ev δ = .nx (δ2.set i (some (.list ys))) := by
  unfold sSto; simp only [hv, liftR, h0, hi, h1, hs]
theorem runB_rt {n : Nat} {sv : Sv} {bc ds out : List PyData} {d : PyData} {δ : Env} (h : sv (env0 n (.list bc :: ds)) = .rt d δ) (hb : box δ = some out) : runB n sv bc ds = .ok d out := by
  unfold runB; simp only [h, hb]
theorem runP_rt {n : Nat} {sv : Sv} {ds : List PyData} {d : PyData} {δ : Env} (h : sv (env0 n ds) = .rt d δ) : runP n sv ds = .ok d [] := by
  unfold runP; simp only [h]
theorem tru_ {ev : Ev} {δ δ1 : Env} {d : PyData} {b : Bool} (h : ev δ = .ok d δ1) (ht : truD d = some b) : tTru ev δ = .ok b δ1 := by
  unfold tTru; simp only [h, R.bind, ht, ofO]
/-! ### the box -/
def Bx (m : Int) (bc : List PyData) : Prop := ∃ a b c : Int, bc = [.int a, .int b, .int c] ∧ 0 ≤ a ∧ 0 ≤ b ∧ b ≤ 2 ^ 62 ∧ 0 ≤ c ∧ c ≤ m
theorem Bx.mono {m m' : Int} {bc : List PyData} (h : Bx m bc) (hm : m ≤ m') : Bx m' bc := by
  obtain ⟨a, b, c, e, h1, h2, h3, h4, h5⟩ := h
  exact ⟨a, b, c, e, h1, h2, h3, h4, by omega⟩
theorem Bx.lf {m : Int} {bc : List PyData} (h : Bx m bc) : lfreeA bc = true := by
  obtain ⟨a, b, c, rfl, _⟩ := h
  rfl
theorem mulC_r {i j : Int} (h : j.natAbs < 2 ^ 64) : mulC i j = true := by
  unfold mulC
  simp [h]
theorem mulC_l {i j : Int} (h : i.natAbs < 2 ^ 64) : mulC i j = true := by
  unfold mulC
  simp [h]
theorem divC_of {i j : Int} (h : 0 < j) (h2 : j ≤ 10 ^ 2000) : divC i j = true := by
  unfold divC
  rw [Bool.and_eq_true, decide_eq_true_eq, decide_eq_true_eq]
  refine ⟨h, ?_⟩
  have h3 : j.natAbs ≠ 0 := by omega
  rw [Nat.log2_lt h3]
  have : j.natAbs ≤ 10 ^ 2000 := by omega
  refine Nat.lt_of_le_of_lt this ?_
  have e : (10 : Nat) ^ 2000 ≤ 16 ^ 2000 := Nat.pow_le_pow_left (by decide) _
  have e2 : (16 : Nat) ^ 2000 = 2 ^ 8000 := by
    rw [show (16 : Nat) = 2 ^ 4 by rfl, ← Nat.pow_mul]
  have e3 : (2 : Nat) ^ 8000 < 2 ^ 9000 := Nat.pow_lt_pow_right (by decide) (by decide)
  omega
theorem modC_of {i j : Int} (h : 0 < j) : modC i j = true := decide_eq_true h
/-! ### evaluation by simp: every word where it is applied -/
section
variable {α β : Type} {δ : Env}
@[simp] theorem vB1 (a : α) (e : Env) (f : α → Env → R β) : (R.ok a e).bind f = f a e := rfl
@[simp] theorem vB2 (c g : Str) (x : PyData) (e : Env) (f : α → Env → R β) : (R.exc c g x e : R α).bind f = .exc c g x e := rfl
@[simp] theorem vO1 (a : α) (e : Env) : ofO (some a) e = .ok a e := rfl
@[simp] theorem vC (d : PyData) : eC d δ = .ok d δ := rfl
@[simp] theorem vSeq (s t : Sv) : sSeq s t δ = (match s δ with | .nx δ' => t δ' | o => o) := rfl
@[simp] theorem vNil : sNil δ = .nx δ := rfl
@[simp] theorem vAsg (i : Nat) (ev : Ev) : sAsg i ev δ = liftR (ev δ) fun d δ1 => .nx (δ1.set i (some d)) := rfl
@[simp] theorem vRet (ev : Ev) : sRet ev δ = liftR (ev δ) fun d δ1 => .rt d δ1 := rfl
@[simp] theorem vRetN : sRetN δ = .rt .none δ := rfl
@[simp] theorem vExpr (ev : Ev) : sExpr ev δ = liftR (ev δ) fun _ δ1 => .nx δ1 := rfl
@[simp] theorem vLift (d : PyData) (e : Env) (f : PyData → Env → O) : liftR (.ok d e) f = f d e := rfl
@[simp] theorem vLift2 (c g : Str) (x : PyData) (e : Env) (f : PyData → Env → O) : liftR (.exc c g x e) f = .exc c g x e := rfl
@[simp] theorem vIf (t : Env → R Bool) (s u : Sv) : sIf t s u δ = (match t δ with | .ok k δ1 => if k = true then s δ1 else u δ1 | .exc k g x e => .exc k g x e | .bad => .bad) := rfl
@[simp] theorem vTcmp (f : PyData → PyData → Option Bool) (a b : Ev) : BD.tCmp f a b δ = (a δ).bind fun x δ1 => (b δ1).bind fun y δ2 => ofO (f x y) δ2 := rfl
@[simp] theorem vCmp (f : PyData → PyData → Option Bool) (a b : Ev) : eCmp f a b δ = (a δ).bind fun x δ1 => (b δ1).bind fun y δ2 => ofO ((f x y).map .bool) δ2 := rfl
@[simp] theorem vBin (f : PyData → PyData → Option PyData) (a b : Ev) : eBin f a b δ = (a δ).bind fun x δ1 => (b δ1).bind fun y δ2 => ofO (f x y) δ2 := rfl
@[simp] theorem vBinF (f : PyData → PyData → Option (List PyData)) (a b : Ev) : eBinF f a b δ = (a δ).bind fun x δ1 => (b δ1).bind fun y δ2 => ofO ((f x y).map .list) δ2 := rfl
@[simp] theorem vUn (f : PyData → Option PyData) (a : Ev) : eUn f a δ = (a δ).bind fun x δ1 => ofO (f x) δ1 := rfl
@[simp] theorem vNilA : eNil δ = .ok [] δ := rfl
@[simp] theorem vCons (ev : Ev) (evs : Env → R (List PyData)) : eCons ev evs δ = (ev δ).bind fun d δ1 => (evs δ1).bind fun ds δ2 => .ok (d :: ds) δ2 := rfl
@[simp] theorem vApp (f : List PyData → Option PyData) (a : Env → R (List PyData)) : eApp f a δ = (a δ).bind fun xs δ1 => ofO (f xs) δ1 := rfl
@[simp] theorem vAppF (f : List PyData → Option (List PyData)) (a : Env → R (List PyData)) : eAppF f a δ = (a δ).bind fun xs δ1 => ofO ((f xs).map .list) δ1 := rfl
@[simp] theorem vLF (ev : Ev) : eLF ev δ = (ev δ).bind fun d δ1 => if lfree d = true then .ok d δ1 else .bad := rfl
@[simp] theorem vTru (ev : Ev) : tTru ev δ = (ev δ).bind fun d δ1 => ofO (truD d) δ1 := rfl
@[simp] theorem vNo (t : Env → R Bool) : tNo t δ = (t δ).bind fun c δ1 => .ok (!c) δ1 := rfl
@[simp] theorem vAn (t u : Env → R Bool) : tAn t u δ = (t δ).bind fun c δ1 => if c = true then u δ1 else .ok false δ1 := rfl
@[simp] theorem vOr (t u : Env → R Bool) : tOr' t u δ = (t δ).bind fun c δ1 => if c = true then .ok true δ1 else u δ1 := rfl
@[simp] theorem vAnd (a b : Ev) : eAnd a b δ = (a δ).bind fun x δ1 => match truD x with | some true => b δ1 | some false => .ok x δ1 | none => .bad := rfl
@[simp] theorem vOrV (a b : Ev) : eOr a b δ = (a δ).bind fun x δ1 => match truD x with | some true => .ok x δ1 | some false => b δ1 | none => .bad := rfl
@[simp] theorem vNot (a : Ev) : eNot a δ = (a δ).bind fun x δ1 => match x with | .bool c => .ok (.bool (!c)) δ1 | _ => .bad := rfl
@[simp] theorem vIfE (t : Env → R Bool) (a b : Ev) : eIf t a b δ = (t δ).bind fun c δ1 => if c = true then a δ1 else b δ1 := rfl
@[simp] theorem vChain (f g : PyData → PyData → Option Bool) (a b c : Ev) : eChain f g a b c δ = (a δ).bind fun x δ1 => (b δ1).bind fun y δ2 => match f x y with
  | some true => (c δ2).bind fun z δ3 => ofO ((g y z).map .bool) δ3
  | some false => .ok (.bool false) δ2
  | none => .bad := rfl
@[simp] theorem vIsi (f : PyData → Bool) (ev : Ev) : eIsi f ev δ = (ev δ).bind fun d δ1 => .ok (.bool (f d)) δ1 := rfl
@[simp] theorem vIxM (i : Nat) (eb : Ev) : eIxM i eb δ = (match getL i δ with | none => .bad | some _ => (eb δ).bind fun k δ1 => match getL i δ1 with | some xs => ofO (atD (.list xs) k) δ1 | none => .bad) := rfl
@[simp] theorem vSto (i : Nat) (ei ev : Ev) : sSto i ei ev δ = liftR (ev δ) fun d δ1 => match getL i δ1 with
  | none => .bad
  | some _ => liftR (ei δ1) fun k δ2 => match k, getL i δ2 with
    | .int j, some xs => match setI xs j d with
      | some ys => .nx (δ2.set i (some (.list ys)))
      | none => .bad
    | _, _ => .bad := rfl
@[simp] theorem vCallB (i n : Nat) (f : List PyData → List PyData → FR) (args : Env → R (List PyData)) : eCallB i n f args δ = (match getL i δ with
  | none => .bad
  | some _ => (args δ).bind fun ds δ1 => match getL i δ1 with
    | some bc => if ds.length + 1 = n then frB i (f bc ds) δ1 else .bad
    | none => .bad) := rfl
@[simp] theorem vCallT (n : Nat) (f : List PyData → List PyData → FR) (a : Ev) (args : Env → R (List PyData)) : eCallT n f a args δ = (a δ).bind fun x δ0 => (args δ0).bind fun ds δ1 => match x with
  | .list bc => if ds.length + 1 = n then frT (f bc ds) δ1 else .bad
  | _ => .bad := rfl
@[simp] theorem vCallP (n : Nat) (ix : Option (List Nat)) (f : List PyData → FR) (args : Env → R (List PyData)) : eCallP n ix f args δ = (args δ).bind fun ds δ1 => if (pickO ix ds).length = n then frR (f (pickO ix ds)) δ1 else .bad := rfl
@[simp] theorem vApd (n m : Nat) (a c : Env → R (List PyData)) : eApd n m a c δ = (a δ).bind fun ds δ1 => (c δ1).bind fun es δ2 => if ds.length = n ∧ es.length = m then .ok (ds ++ es) δ2 else .bad := rfl
@[simp] theorem vFrB (i : Nat) (d : PyData) (o : List PyData) : frB i (.ok d o) δ = (if lfreeA o = true then .ok d (δ.set i (some (.list o))) else .bad) := rfl
@[simp] theorem vFrR (d : PyData) (o : List PyData) : frR (.ok d o) δ = .ok d δ := rfl
@[simp] theorem vFrT (d : PyData) (o : List PyData) : frT (.ok d o) δ = .ok d δ := rfl
@[simp] theorem vCel (i : Nat) (f : List PyData → Option PyData) : eCel i f δ = (match getL i δ with | none => .bad | some xs => ofO (f xs) δ) := rfl
@[simp] theorem vMut (i : Nat) (f : List PyData → List PyData → Option (PyData × List PyData)) (args : Env → R (List PyData)) : eMut i f args δ = (match getL i δ with
  | none => .bad
  | some _ => (args δ).bind fun ds δ1 => match getL i δ1 with
    | some xs => match f xs ds with
      | some q => .ok q.1 (δ1.set i (some (.list q.2)))
      | none => .bad
    | none => .bad) := rfl
@[simp] theorem vPar (h : List PyData → Env → Option Env) (evs : Env → R (List PyData)) : sPar h evs δ = (match evs δ with | .ok ds δ1 => (match h ds δ1 with | some δ2 => .nx δ2 | none => .bad) | .exc k f x e => .exc k f x e | .bad => .bad) := rfl
@[simp] theorem vUnp (g : PyData → Env → Option Env) (ev : Ev) : sUnp g ev δ = liftR (ev δ) fun d δ1 => match g d δ1 with | some δ2 => .nx δ2 | none => .bad := rfl
@[simp] theorem vGN (i : Nat) (d : PyData) : gNm i d δ = some (δ.set i (some d)) := rfl
@[simp] theorem vGs0 : gsNil [] δ = some δ := rfl
@[simp] theorem vGs1 (g : PyData → Env → Option Env) (h : List PyData → Env → Option Env) (d : PyData) (ds : List PyData) : gsCons g h (d :: ds) δ = (g d δ).bind fun δ1 => h ds δ1 := rfl
@[simp] theorem vGT (h : List PyData → Env → Option Env) (ds : List PyData) : gTu h (.tuple ds) δ = h ds δ := rfl
@[simp] theorem vFor (g : PyData → Env → Option Env) (it : Env → R (List PyData)) (body : Sv) : sFor g it body δ = (match it δ with | .ok ds δ1 => forL g body ds δ1 | .exc k f x e => .exc k f x e | .bad => .bad) := rfl
@[simp] theorem vSq (ev : Ev) : iSq ev δ = (ev δ).bind fun d δ1 => ofO (seqD d) δ1 := rfl
@[simp] theorem vILF (it : Env → R (List PyData)) : iLF it δ = (it δ).bind fun ds δ1 => if lfreeA ds = true then .ok ds δ1 else .bad := rfl
@[simp] theorem vR1 (a : Ev) : iR1 a δ = (a δ).bind fun x δ1 => match x with | .int j => if inR j = true then .ok (rngL 0 j) δ1 else .bad | _ => .bad := rfl
@[simp] theorem vR2 (a c : Ev) : iR2 a c δ = (a δ).bind fun x δ1 => (c δ1).bind fun y δ2 => match x, y with | .int i, .int j => if (inR i && inR j) = true then .ok (rngL i j) δ2 else .bad | _, _ => .bad := rfl
@[simp] theorem vZp (a c : Ev) : iZp a c δ = (a δ).bind fun x δ1 => (c δ1).bind fun y δ2 => match seqD x, seqD y with | some xs, some ys => .ok (zipL xs ys) δ2 | _, _ => .bad := rfl
@[simp] theorem vLc (vs : List Nat) (g : PyData → Env → Option Env) (it : Env → R (List PyData)) (t : Env → R Bool) (el : Ev) : eLc vs g it t el δ = (match it δ with
  | .ok ds δ1 => match lcL g t el vs ds (wipeD δ1 vs) [] with
    | .ok acc δ2 => .ok (.list acc) (rest vs δ1 δ2)
    | _ => .bad
  | .exc k f x e => .exc k f x e
  | .bad => .bad) := rfl
@[simp] theorem vYs : tYs δ = .ok true δ := rfl
@[simp] theorem vPart (a : Ev) : ePart a δ = (a δ).bind fun x δ1 => match x with | .int i => .ok (some i) δ1 | _ => .bad := rfl
@[simp] theorem vNoPart : eNoPart δ = .ok none δ := rfl
@[simp] theorem vSl (a : Ev) (l h : Env → R (Option Int)) : eSl a l h δ = (a δ).bind fun x δ1 => (l δ1).bind fun u δ2 => (h δ2).bind fun v δ3 => ofO (slD x u v) δ3 := rfl
@[simp] theorem vRev (a : Ev) : eRev a δ = (a δ).bind fun x δ1 => ofO ((revF x).map .list) δ1 := rfl
@[simp] theorem vAug (i : Nat) (f : PyData → PyData → Option PyData) (ev : Ev) : sAug i f ev δ = (match eVar i δ with
  | .ok x _ => liftR (ev δ) fun y δ1 => match f x y with
    | some d => .nx (δ1.set i (some d))
    | none => .bad
  | _ => .bad) := rfl
end
@[simp] theorem vV0 (d : PyData) (δ : Env) : eVar 0 (some d :: δ) = nX d (.ok d (some d :: δ)) := rfl
@[simp] theorem vVar (i : Nat) (o : Option PyData) (δ : Env) : eVar (i + 1) (o :: δ) = (match δ[i]? with | some (some d) => nX d (.ok d (o :: δ)) | _ => .bad) := rfl
@[simp] theorem nX_non {α : Type} (r : R α) : nX .none r = r := rfl
@[simp] theorem nX_bool {α : Type} (b : Bool) (r : R α) : nX (.bool b) r = r := rfl
@[simp] theorem nX_int {α : Type} (b : Int) (r : R α) : nX (.int b) r = r := rfl
@[simp] theorem nX_str {α : Type} (b : Str) (r : R α) : nX (.str b) r = r := rfl
@[simp] theorem nX_list {α : Type} (b : List PyData) (r : R α) : nX (.list b) r = r := rfl
@[simp] theorem nX_tuple {α : Type} (b : List PyData) (r : R α) : nX (.tuple b) r = r := rfl
@[simp] theorem nX_if {α : Type} (p : Prop) [Decidable p] (a b : PyData) (r : R α) : nX (if p then a else b) r = if p then nX a r else nX b r := by split <;> rfl
/-- data that is no error -/
class NX (d : PyData) : Prop where
  nx : isX d = false
instance : NX .none := ⟨rfl⟩
instance (b : Bool) : NX (.bool b) := ⟨rfl⟩
instance (b : Int) : NX (.int b) := ⟨rfl⟩
instance (b : Str) : NX (.str b) := ⟨rfl⟩
instance (b : List PyData) : NX (.list b) := ⟨rfl⟩
instance (b : List PyData) : NX (.tuple b) := ⟨rfl⟩
@[simp] theorem nX_inst {α : Type} (d : PyData) [h : NX d] (r : R α) : nX d r = r := by unfold nX; rw [h.nx]; rfl
theorem nX_of {α : Type} {d : PyData} (h : isX d = false) (r : R α) : nX d r = r := by unfold nX; rw [h]; rfl
@[simp] theorem vL0 (d : List PyData) (δ : Env) : getL 0 (some (.list d) :: δ) = some d := rfl
@[simp] theorem vLS (i : Nat) (o : Option PyData) (δ : Env) : getL (i + 1) (o :: δ) = getL i δ := rfl
@[simp] theorem vBox (d : List PyData) (δ : Env) : box (some (.list d) :: δ) = some d := rfl
@[simp] theorem v2 (C : Int → Int → Bool) (g : Int → Int → Int) (i j : Int) : i2 C g (.int i) (.int j) = if C i j = true then some (.int (g i j)) else none := rfl
@[simp] theorem vAddI (i j : Int) : addD (.int i) (.int j) = some (.int (i + j)) := rfl
@[simp] theorem vAddL (i j : List PyData) : addD (.list i) (.list j) = if i.length + j.length ≤ 16777216 then some (.list (i ++ j)) else none := rfl
@[simp] theorem vAddT (i j : List PyData) : addD (.tuple i) (.tuple j) = if i.length + j.length ≤ 16777216 then some (.tuple (i ++ j)) else none := rfl
@[simp] theorem vSubI (i j : Int) : subD (.int i) (.int j) = some (.int (i - j)) := rfl
@[simp] theorem vMulI (i j : Int) : mulD (.int i) (.int j) = if mulC i j = true then some (.int (i * j)) else none := rfl
@[simp] theorem vMulL (xs : List PyData) (k : Int) : mulD (.list xs) (.int k) = if repC xs k = true then some (.list (List.replicate k.toNat xs).flatten) else none := rfl
@[simp] theorem vMulT (xs : List PyData) (k : Int) : mulD (.tuple xs) (.int k) = if repC xs k = true then some (.tuple (List.replicate k.toNat xs).flatten) else none := rfl
@[simp] theorem vLt (i j : Int) : ltD (.int i) (.int j) = some (decide (i < j)) := rfl
@[simp] theorem vGt (i j : Int) : gtD (.int i) (.int j) = some (decide (j < i)) := rfl
@[simp] theorem vLe (i j : Int) : leD (.int i) (.int j) = some (decide (i ≤ j)) := rfl
@[simp] theorem vGe (i j : Int) : geD (.int i) (.int j) = some (decide (j ≤ i)) := rfl
@[simp] theorem vAtL (xs : List PyData) (i : Int) : atD (.list xs) (.int i) = L2.atI xs i := rfl
@[simp] theorem vAtT (xs : List PyData) (i : Int) : atD (.tuple xs) (.int i) = L2.atI xs i := rfl
@[simp] theorem vAt0 (x : PyData) (xs : List PyData) : L2.atI (x :: xs) 0 = some x := by
  unfold L2.atI L2.ixN
  simp
theorem ixS {n i : Nat} (h : i < n) : L2.ixN n (i : Int) = some i := by
  unfold L2.ixN
  rw [if_pos (Int.natCast_nonneg i), if_pos (by omega)]
  simp
theorem atS (xs : List PyData) (i : Nat) : L2.atI xs (i : Int) = xs[i]? := by
  unfold L2.atI
  by_cases h : i < xs.length
  · rw [ixS h]; rfl
  · unfold L2.ixN
    rw [if_pos (Int.natCast_nonneg i), if_neg (by omega)]
    simp; omega
@[simp] theorem vAt1 (x y : PyData) (xs : List PyData) : L2.atI (x :: y :: xs) 1 = some y := atS _ 1
@[simp] theorem vAt2 (x y z : PyData) (xs : List PyData) : L2.atI (x :: y :: z :: xs) 2 = some z := atS _ 2
@[simp] theorem vSet0 (x d : PyData) (xs : List PyData) : setI (x :: xs) 0 d = some (d :: xs) := by
  unfold setI L2.ixN
  simp
theorem setS {xs : List PyData} {i : Nat} (d : PyData) (h : i < xs.length) : setI xs (i : Int) d = some (xs.set i d) := by
  unfold setI
  rw [ixS h]; rfl
@[simp] theorem vSet2 (x y z d : PyData) (xs : List PyData) : setI (x :: y :: z :: xs) 2 d = some (x :: y :: d :: xs) := setS (i := 2) d (by simp)
@[simp] theorem vTI (i : Int) : truD (.int i) = some (i != 0) := rfl
@[simp] theorem vTB (b : Bool) : truD (.bool b) = some b := rfl
@[simp] theorem vTN : truD .none = some false := rfl
@[simp] theorem vTL (xs : List PyData) : truD (.list xs) = some (!xs.isEmpty) := rfl
@[simp] theorem vTT (xs : List PyData) : truD (.tuple xs) = some (!xs.isEmpty) := rfl
@[simp] theorem vLenL (xs : List PyData) : lenD [.list xs] = some (.int xs.length) := rfl
@[simp] theorem vLenT (xs : List PyData) : lenD [.tuple xs] = some (.int xs.length) := rfl
@[simp] theorem vAbs (i : Int) : absD [.int i] = some (.int (if i < 0 then -i else i)) := rfl
@[simp] theorem vInt (i : Int) : intD [.int i] = some (.int i) := rfl
@[simp] theorem vIntB (k : Bool) : intD [.bool k] = some (.int (if k then 1 else 0)) := rfl
@[simp] theorem vMax (i j : Int) : max2D [.int i, .int j] = some (.int (if j > i then j else i)) := rfl
@[simp] theorem vMin (i j : Int) : min2D [.int i, .int j] = some (.int (if j < i then j else i)) := rfl
@[simp] theorem vFTup (ds : List PyData) : fTup ds = if ds.length ≤ 16777216 then some (.tuple ds) else none := rfl
@[simp] theorem vFLst (ds : List PyData) : fLst ds = if ds.length ≤ 16777216 then some (.list ds) else none := rfl
@[simp] theorem vFId (ds : List PyData) : fId ds = if ds.length ≤ 16777216 then some ds else none := rfl
@[simp] theorem vSqL (ds : List PyData) : seqD (.list ds) = some ds := rfl
@[simp] theorem vSqT (ds : List PyData) : seqD (.tuple ds) = some ds := rfl
@[simp] theorem vTupL (ds : List PyData) : tupD [.list ds] = some (.tuple ds) := rfl
@[simp] theorem vTupT (ds : List PyData) : tupD [.tuple ds] = some (.tuple ds) := rfl
@[simp] theorem vLisL (ds : List PyData) : listF [.list ds] = some ds := rfl
@[simp] theorem vLisT (ds : List PyData) : listF [.tuple ds] = some ds := rfl
@[simp] theorem vSomeT (ds : List PyData) : someT ds = some (.tuple ds) := rfl
@[simp] theorem vPick0 (xs : List PyData) : pickO none xs = xs := rfl
@[simp] theorem vPick (ix : List Nat) (xs : List PyData) : pickO (some ix) xs = pick ix xs := rfl
@[simp] theorem vPk0 (xs : List PyData) : pick [] xs = [] := rfl
@[simp] theorem vPk1 (i : Nat) (ix : List Nat) (xs : List PyData) : pick (i :: ix) xs = (match xs[i]? with | some x => x :: pick ix xs | none => pick ix xs) := by
  unfold pick
  rw [List.filterMap_cons]
  cases xs[i]? <;> rfl
@[simp] theorem vAll (bs : List Bool) : allD [.list (bs.map .bool)] = some (.bool (bs.all id)) := by simp [allD]
@[simp] theorem vAny (bs : List Bool) : anyD [.list (bs.map .bool)] = some (.bool (bs.any id)) := by simp [anyD]
@[simp] theorem vSum (ns : List Int) : sumD [.list (ns.map .int)] = some (.int ns.sum) := by simp [sumD]
@[simp] theorem vE0 (n : Nat) (ds : List PyData) : env0 n ds = ds.map some ++ List.replicate (n - ds.length) none := rfl
@[simp] theorem vW0 (δ : Env) : wipeD δ [] = δ := rfl
@[simp] theorem vW1 (δ : Env) (v : Nat) (vs : List Nat) : wipeD δ (v :: vs) = (wipeD δ vs).set v none := rfl
@[simp] theorem vIsNo (a : PyData) : isD a .none = some (isNo a) := rfl
@[simp] theorem vNtNo (a : PyData) : ntD a .none = some (!isNo a) := rfl
@[simp] theorem vF0 (g : PyData → Env → Option Env) (body : Sv) (δ : Env) : forL g body [] δ = .nx δ := rfl
theorem vF1 (g : PyData → Env → Option Env) (body : Sv) (d : PyData) (ds : List PyData) (δ : Env) : forL g body (d :: ds) δ = (match g d δ with
    | none => .bad
    | some δ1 => match body δ1 with
      | .nx δ2 => forL g body ds δ2
      | o => o) := rfl
@[simp] theorem vModC (i j : Int) : modC i j = decide (0 < j) := rfl
@[simp] theorem vDivC {i j : Int} (h : 0 < j) (h2 : j < 2 ^ 200) : divC i j = true := divC_of h (by
  have e : (2 : Int) ^ 200 ≤ 10 ^ 2000 := by
    have e1 : (2 : Nat) ^ 200 ≤ 10 ^ 200 := Nat.pow_le_pow_left (by decide) _
    have e2 : (10 : Nat) ^ 200 ≤ 10 ^ 2000 := Nat.pow_le_pow_right (by decide) (by decide)
    exact_mod_cast Nat.le_trans e1 e2
  omega)
@[simp] theorem vMulCl {i j : Int} (h : i.natAbs < 2 ^ 64) : mulC i j = true := mulC_l h
@[simp] theorem vMulCr {i j : Int} (h : j.natAbs < 2 ^ 64) : mulC i j = true := mulC_r h
@[simp] theorem vPow107 : powC 10 7 = true := by decide
@[simp] theorem vPow1018 : powC 10 18 = true := by decide
@[simp] theorem vPow1039 : powC 10 39 = true := by decide
@[simp] theorem vPow1040 : powC 10 40 = true := by decide
@[simp] theorem vlfA0 : lfreeA [] = true := rfl
@[simp] theorem vlfA1 (x : PyData) (xs : List PyData) : lfreeA (x :: xs) = (lfree x && lfreeA xs) := rfl
@[simp] theorem vlfI (i : Int) : lfree (.int i) = true := rfl
@[simp] theorem vlfB (i : Bool) : lfree (.bool i) = true := rfl
@[simp] theorem vlfS (i : Str) : lfree (.str i) = true := rfl
@[simp] theorem vlfN : lfree .none = true := rfl
@[simp] theorem vlfT (xs : List PyData) : lfree (.tuple xs) = lfreeA xs := rfl
@[simp] theorem vlfAm : ∀ (xs : List Int), lfreeA (xs.map .int) = true
  | [] => rfl
  | x :: xs => by simp [vlfAm xs]
@[simp] theorem vlfAb : ∀ (xs : List Bool), lfreeA (xs.map .bool) = true
  | [] => rfl
  | x :: xs => by simp [vlfAb xs]
/-! ### loops -/
theorem lc_ind {g : PyData → Env → Option Env} {t : Env → R Bool} {el : Ev} {vs : List Nat} (I : List PyData → Env → List PyData → Prop)
    (step : ∀ d ds δ acc, I (d :: ds) δ acc → ∃ δ1, g d δ = some δ1 ∧ ((∃ δ2, t δ1 = .ok false δ2 ∧ I ds (wipeD δ2 vs) acc) ∨ ∃ δ2 y δ3, t δ1 = .ok true δ2 ∧ el δ2 = .ok y δ3 ∧ acc.length < 16777216 ∧ I ds (wipeD δ3 vs) (acc ++ [y]))) :
    ∀ ds δ acc, I ds δ acc → ∃ acc' δ', lcL g t el vs ds δ acc = .ok acc' δ' ∧ I [] δ' acc'
  | [], δ, acc, h => ⟨acc, δ, rfl, h⟩
  | d :: ds, δ, acc, h => by
    obtain ⟨δ1, h1, h2⟩ := step d ds δ acc h
    rcases h2 with ⟨δ2, h2, h3⟩ | ⟨δ2, y, δ3, h2, h3, h4, h5⟩
    · obtain ⟨acc', δ', e, q⟩ := lc_ind I step ds _ acc h3
      exact ⟨acc', δ', by rw [lcL, h1]; simp only [h2]; exact e, q⟩
    · obtain ⟨acc', δ', e, q⟩ := lc_ind I step ds _ _ h5
      exact ⟨acc', δ', by rw [lcL, h1]; simp only [h2, h3]; rw [if_pos h4]; exact e, q⟩
/-- a comprehension that changes nothing: the items that pass, each by h -/
theorem lc_pure {g : PyData → Env → Option Env} {t : Env → R Bool} {el : Ev} {vs : List Nat} (p : PyData → Bool) (h : PyData → PyData) (δ0 : Env) (ds : List PyData)
    (step : ∀ d ∈ ds, ∃ δ1 δ2, g d δ0 = some δ1 ∧ t δ1 = .ok (p d) δ2 ∧ (p d = true → ∃ δ3, el δ2 = .ok (h d) δ3 ∧ wipeD δ3 vs = δ0) ∧ (p d = false → wipeD δ2 vs = δ0)) :
    ∀ acc, acc.length + ds.length ≤ 16777216 → lcL g t el vs ds δ0 acc = .ok (acc ++ (ds.filter p).map h) δ0 := by
  induction ds with
  | nil => intro acc _; simp [lcL]
  | cons d r ih =>
    intro acc hl
    obtain ⟨δ1, δ2, h1, h2, h3, h4⟩ := step d List.mem_cons_self
    have ih := ih fun d' hd => step d' (List.mem_cons_of_mem _ hd)
    rw [lcL, h1]
    simp only [h2]
    cases e : p d with
    | false =>
      simp only
      rw [h4 e, ih acc (by simp only [List.length_cons] at hl; omega), List.filter_cons, e]
      simp
    | true =>
      obtain ⟨δ3, h5, h6⟩ := h3 e
      simp only [h5]
      rw [if_pos (by simp only [List.length_cons] at hl; omega), h6, ih _ (by simp only [List.length_cons, List.length_append, List.length_nil] at hl ⊢; omega), List.filter_cons, e]
      simp
theorem lc_map {g : PyData → Env → Option Env} {el : Ev} {vs : List Nat} (h : PyData → PyData) (δ0 : Env) (ds : List PyData) (hl : ds.length ≤ 16777216)
    (step : ∀ d ∈ ds, ∃ δ1 δ3, g d δ0 = some δ1 ∧ el δ1 = .ok (h d) δ3 ∧ wipeD δ3 vs = δ0) : lcL g tYs el vs ds δ0 [] = .ok (ds.map h) δ0 := by
  have := lc_pure (t := tYs) (fun _ => true) h δ0 ds (fun d hd => by
    obtain ⟨δ1, δ3, h1, h2, h3⟩ := step d hd
    exact ⟨δ1, δ1, h1, rfl, fun _ => ⟨δ3, h2, h3⟩, fun z => by cases z⟩) [] (by simpa using hl)
  rw [List.filter_eq_self.mpr fun _ _ => rfl] at this
  simpa using this
theorem for_ind {g : PyData → Env → Option Env} {body : Sv} (I : List PyData → Env → Prop) (step : ∀ d ds δ, I (d :: ds) δ → ∃ δ1 δ2, g d δ = some δ1 ∧ body δ1 = .nx δ2 ∧ I ds δ2) : ∀ ds δ, I ds δ → ∃ δ', forL g body ds δ = .nx δ' ∧ I [] δ'
  | [], δ, h => ⟨δ, rfl, h⟩
  | d :: ds, δ, h => by
    obtain ⟨δ1, δ2, h1, h2, h3⟩ := step d ds δ h
    obtain ⟨δ', e, q⟩ := for_ind I step ds δ2 h3
    exact ⟨δ', by rw [vF1, h1]; simp only [h2]; exact e, q⟩
theorem wh_ind {t : Env → R Bool} {body : Sv} (I J : Env → Prop) (μ : Env → Nat) (step : ∀ δ, I δ → (∃ δ', t δ = .ok false δ' ∧ J δ') ∨ ∃ δ1 δ2, t δ = .ok true δ1 ∧ body δ1 = .nx δ2 ∧ I δ2 ∧ μ δ2 < μ δ) (δ : Env) (h : I δ) : ∃ δ', sWhile t body δ = .nx δ' ∧ J δ' := by
  have key : ∀ n δ, μ δ < n → I δ → ∃ δ', whL t body n δ = .nx δ' ∧ J δ' := fun n => by
    induction n with
    | zero => intro δ hn; omega
    | succ n ih =>
      intro δ hn h
      rcases step δ h with ⟨δ', h1, h2⟩ | ⟨δ1, δ2, h1, h2, h3, h4⟩
      · exact ⟨δ', by rw [whL, h1], h2⟩
      · obtain ⟨δ', e, q⟩ := ih δ2 (by omega) h3
        exact ⟨δ', by rw [whL, h1]; simp only [h2]; exact e, q⟩
  obtain ⟨δ', e, q⟩ := key (μ δ + 1) δ (Nat.lt_succ_self _) h
  exact ⟨δ', sWhile_eq t body e (by simp), q⟩
/-! ### equality of data -/
theorem eqv_refl {d : PyData} (h : d.plain = true) : PyData.eqv d d = true := PySem.SeqAt.eqv_refl_plain d h
theorem eqD_refl {d : PyData} (h : d.plain = true) (hd : d.depth ≤ 60) : eqD d d = some true := by
  unfold eqD
  rw [if_pos (by simpa using hd), eqv_refl h]
@[simp] theorem vEqI (i j : Int) : eqD (.int i) (.int j) = some (i == j) := rfl
@[simp] theorem vNeI (i j : Int) : neD (.int i) (.int j) = some (!(i == j)) := rfl
@[simp] theorem vEqB (i j : Bool) : eqD (.bool i) (.bool j) = some (i == j) := rfl
@[simp] theorem vNeB (i j : Bool) : neD (.bool i) (.bool j) = some (!(i == j)) := rfl
@[simp] theorem vEqS (i j : Str) : eqD (.str i) (.str j) = some (i == j) := rfl
@[simp] theorem vNeS (i j : Str) : neD (.str i) (.str j) = some (!(i == j)) := rfl
@[simp] theorem vEqN : eqD .none .none = some true := rfl
/-- data of at most n levels, no list longer than a million -/
def okd : Nat → PyData → Prop
  | 0, d => match d with
    | .list _ => False
    | .tuple _ => False
    | .dict _ => False
    | _ => True
  | n + 1, d => match d with
    | .list xs => xs.length ≤ 1000000 ∧ ∀ x ∈ xs, okd n x
    | .tuple xs => xs.length ≤ 1000000 ∧ ∀ x ∈ xs, okd n x
    | .dict _ => False
    | _ => True
theorem plainAll_of {xs : List PyData} (h : ∀ x ∈ xs, x.plain = true) : PyData.plainAll xs = true := by
  induction xs with
  | nil => rfl
  | cons x r ih =>
    rw [PyData.plainAll, h x List.mem_cons_self, ih fun y hy => h y (List.mem_cons_of_mem _ hy)]; rfl
theorem depthAll_of {n : Nat} {xs : List PyData} (h : ∀ x ∈ xs, x.depth ≤ n) : PyData.depthAll xs ≤ n := by
  induction xs with
  | nil => exact Nat.zero_le _
  | cons x r ih =>
    rw [PyData.depthAll]
    have h1 := h x List.mem_cons_self
    have h2 := ih fun y hy => h y (List.mem_cons_of_mem _ hy)
    omega
theorem okd_plain : ∀ {n : Nat} {d : PyData}, okd n d → d.plain = true ∧ d.depth ≤ n
  | 0, .none, _ => ⟨rfl, Nat.le_refl _⟩
  | 0, .bool _, _ => ⟨rfl, Nat.le_refl _⟩
  | 0, .int _, _ => ⟨rfl, Nat.le_refl _⟩
  | 0, .str _, _ => ⟨rfl, Nat.le_refl _⟩
  | 0, .list _, h => h.elim
  | 0, .tuple _, h => h.elim
  | 0, .dict _, h => h.elim
  | n + 1, .none, _ => ⟨rfl, Nat.zero_le _⟩
  | n + 1, .bool _, _ => ⟨rfl, Nat.zero_le _⟩
  | n + 1, .int _, _ => ⟨rfl, Nat.zero_le _⟩
  | n + 1, .str _, _ => ⟨rfl, Nat.zero_le _⟩
  | n + 1, .list xs, h => ⟨by rw [PyData.plain]; exact plainAll_of fun x hx => (okd_plain (h.2 x hx)).1, by rw [PyData.depth]; have := depthAll_of fun x hx => (okd_plain (h.2 x hx)).2; omega⟩
  | n + 1, .tuple xs, h => ⟨by rw [PyData.plain]; exact plainAll_of fun x hx => (okd_plain (h.2 x hx)).1, by rw [PyData.depth]; have := depthAll_of fun x hx => (okd_plain (h.2 x hx)).2; omega⟩
  | n + 1, .dict _, h => h.elim
theorem okd_up : ∀ {n : Nat} {d : PyData}, okd n d → okd (n + 1) d
  | 0, .none, _ => trivial
  | 0, .bool _, _ => trivial
  | 0, .int _, _ => trivial
  | 0, .str _, _ => trivial
  | 0, .list _, h => h.elim
  | 0, .tuple _, h => h.elim
  | 0, .dict _, h => h.elim
  | n + 1, .none, _ => trivial
  | n + 1, .bool _, _ => trivial
  | n + 1, .int _, _ => trivial
  | n + 1, .str _, _ => trivial
  | n + 1, .list xs, h => ⟨h.1, fun x hx => okd_up (h.2 x hx)⟩
  | n + 1, .tuple xs, h => ⟨h.1, fun x hx => okd_up (h.2 x hx)⟩
  | n + 1, .dict _, h => h.elim
theorem okd_le {n m : Nat} {d : PyData} (h : okd n d) (hm : n ≤ m) : okd m d := by
  induction hm with
  | refl => exact h
  | step _ ih => exact okd_up ih
theorem zipL_self (xs : List PyData) : zipL xs xs = xs.map fun x => .tuple [x, x] := by
  induction xs with
  | nil => rfl
  | cons x r ih => simp [zipL, ih]
theorem eqD_ok {n : Nat} {d : PyData} (h : okd n d) (hn : n ≤ 60) : eqD d d = some true := eqD_refl (okd_plain h).1 (Nat.le_trans (okd_plain h).2 hn)
@[simp] theorem v_isLiN : isLi .none = false := rfl
@[simp] theorem v_isLiB (b : Bool) : isLi (.bool b) = false := rfl
@[simp] theorem v_isLiI (i : Int) : isLi (.int i) = false := rfl
@[simp] theorem v_isLiS (z : Str) : isLi (.str z) = false := rfl
@[simp] theorem v_isLiL (xs : List PyData) : isLi (.list xs) = true := rfl
@[simp] theorem v_isLiT (xs : List PyData) : isLi (.tuple xs) = false := rfl
@[simp] theorem v_isTuN : isTu .none = false := rfl
@[simp] theorem v_isTuB (b : Bool) : isTu (.bool b) = false := rfl
@[simp] theorem v_isTuI (i : Int) : isTu (.int i) = false := rfl
@[simp] theorem v_isTuS (z : Str) : isTu (.str z) = false := rfl
@[simp] theorem v_isTuL (xs : List PyData) : isTu (.list xs) = false := rfl
@[simp] theorem v_isTuT (xs : List PyData) : isTu (.tuple xs) = true := rfl
@[simp] theorem v_isStN : isSt .none = false := rfl
@[simp] theorem v_isStB (b : Bool) : isSt (.bool b) = false := rfl
@[simp] theorem v_isStI (i : Int) : isSt (.int i) = false := rfl
@[simp] theorem v_isStS (z : Str) : isSt (.str z) = true := rfl
@[simp] theorem v_isStL (xs : List PyData) : isSt (.list xs) = false := rfl
@[simp] theorem v_isStT (xs : List PyData) : isSt (.tuple xs) = false := rfl
@[simp] theorem v_isInN : isIn .none = false := rfl
@[simp] theorem v_isInB (b : Bool) : isIn (.bool b) = true := rfl
@[simp] theorem v_isInI (i : Int) : isIn (.int i) = true := rfl
@[simp] theorem v_isInS (z : Str) : isIn (.str z) = false := rfl
@[simp] theorem v_isInL (xs : List PyData) : isIn (.list xs) = false := rfl
@[simp] theorem v_isInT (xs : List PyData) : isIn (.tuple xs) = false := rfl
@[simp] theorem v_isBoN : isBo .none = false := rfl
@[simp] theorem v_isBoB (b : Bool) : isBo (.bool b) = true := rfl
@[simp] theorem v_isBoI (i : Int) : isBo (.int i) = false := rfl
@[simp] theorem v_isBoS (z : Str) : isBo (.str z) = false := rfl
@[simp] theorem v_isBoL (xs : List PyData) : isBo (.list xs) = false := rfl
@[simp] theorem v_isBoT (xs : List PyData) : isBo (.tuple xs) = false := rfl
@[simp] theorem v_isNoN : isNo .none = true := rfl
@[simp] theorem v_isNoB (b : Bool) : isNo (.bool b) = false := rfl
@[simp] theorem v_isNoI (i : Int) : isNo (.int i) = false := rfl
@[simp] theorem v_isNoS (z : Str) : isNo (.str z) = false := rfl
@[simp] theorem v_isNoL (xs : List PyData) : isNo (.list xs) = false := rfl
@[simp] theorem v_isNoT (xs : List PyData) : isNo (.tuple xs) = false := rfl
theorem atZ {xs : List PyData} {v : Int} (h : 0 ≤ v) : L2.atI xs v = xs[v.toNat]? := by
  obtain ⟨n, rfl⟩ := Int.eq_ofNat_of_zero_le h
  exact atS xs n
theorem atV {xs : List PyData} {v : Int} (h : 0 ≤ v) (h1 : v < (xs.length : Nat)) : ∃ x, L2.atI xs v = some x ∧ x ∈ xs ∧ xs[v.toNat]? = some x := by
  have hl : v.toNat < xs.length := by omega
  exact ⟨xs[v.toNat], by rw [atZ h]; simp [hl], List.getElem_mem hl, by simp [hl]⟩
theorem setZ {xs : List PyData} {v : Int} (d : PyData) (h : 0 ≤ v) (h1 : v < (xs.length : Nat)) : setI xs v d = some (xs.set v.toNat d) := by
  obtain ⟨n, rfl⟩ := Int.eq_ofNat_of_zero_le h
  exact setS d (by omega)
theorem mulC_if (i : Int) (P : Prop) [Decidable P] : mulC i (if P then 1 else 0) = true := by
  split <;> exact mulC_r (by decide)
/-- a comprehension over known items that changes nothing -/
theorem lc_filT {α : Type} {g : PyData → Env → Option Env} {t : Env → R Bool} {el : Ev} {vs : List Nat} (f : α → PyData) (p : α → Bool) (h : α → PyData) (δ0 : Env) :
    ∀ (ps : List α), (∀ a ∈ ps, ∃ δ1 δ2, g (f a) δ0 = some δ1 ∧ t δ1 = .ok (p a) δ2 ∧ (p a = true → ∃ δ3, el δ2 = .ok (h a) δ3 ∧ wipeD δ3 vs = δ0) ∧ (p a = false → wipeD δ2 vs = δ0)) →
    ∀ acc, acc.length + ps.length ≤ 16777216 → lcL g t el vs (ps.map f) δ0 acc = .ok (acc ++ (ps.filter p).map h) δ0
  | [], _, acc, _ => by simp [lcL]
  | a :: r, step, acc, hl => by
    obtain ⟨δ1, δ2, h1, h2, h3, h4⟩ := step a List.mem_cons_self
    have ih := lc_filT f p h δ0 r fun d' hd => step d' (List.mem_cons_of_mem _ hd)
    rw [List.map_cons, lcL, h1]
    simp only [h2]
    cases e : p a with
    | false =>
      simp only
      rw [h4 e, ih acc (by simp only [List.length_cons] at hl; omega), List.filter_cons, e]
      simp
    | true =>
      obtain ⟨δ3, h5, h6⟩ := h3 e
      simp only [h5]
      rw [if_pos (by simp only [List.length_cons] at hl; omega), h6, ih _ (by simp only [List.length_cons, List.length_append, List.length_nil] at hl ⊢; omega), List.filter_cons, e]
      simp
theorem lc_mapT {α : Type} {g : PyData → Env → Option Env} {el : Ev} {vs : List Nat} (f : α → PyData) (h : α → PyData) (δ0 : Env) (ps : List α) (hl : ps.length ≤ 16777216)
    (step : ∀ a ∈ ps, ∃ δ1 δ3, g (f a) δ0 = some δ1 ∧ el δ1 = .ok (h a) δ3 ∧ wipeD δ3 vs = δ0) : lcL g tYs el vs (ps.map f) δ0 [] = .ok (ps.map h) δ0 := by
  have := lc_filT (t := tYs) f (fun _ => true) h δ0 ps (fun a ha => by
    obtain ⟨δ1, δ3, h1, h2, h3⟩ := step a ha
    exact ⟨δ1, δ1, h1, rfl, fun _ => ⟨δ3, h2, h3⟩, fun z => by cases z⟩) [] (by simpa using hl)
  rw [List.filter_eq_self.mpr fun _ _ => rfl] at this
  simpa using this
/-- a number or None -/
def oD : Option Int → PyData
  | none => .none
  | some i => .int i
@[simp] theorem oD_no (o : Option Int) : isNo (oD o) = o.isNone := by cases o <;> rfl
theorem zip_map {α β : Type} (f : α → PyData) (g : β → PyData) : ∀ (xs : List α) (ys : List β), zipL (xs.map f) (ys.map g) = (xs.zip ys).map fun p => .tuple [f p.1, g p.2]
  | [], _ => rfl
  | _ :: _, [] => rfl
  | x :: xs, y :: ys => by simp [zipL, zip_map f g xs ys]
/-- a list or a tuple -/
def sqd (b : Bool) (xs : List PyData) : PyData := if b = true then .tuple xs else .list xs
instance (b : Bool) (xs : List PyData) : NX (sqd b xs) := ⟨by cases b <;> rfl⟩
@[simp] theorem sqd_seq (b : Bool) (xs : List PyData) : seqD (sqd b xs) = some xs := by cases b <;> rfl
@[simp] theorem sqd_len (b : Bool) (xs : List PyData) : lenD [sqd b xs] = some (.int xs.length) := by cases b <;> rfl
@[simp] theorem sqd_at (b : Bool) (xs : List PyData) (i : Int) : atD (sqd b xs) (.int i) = L2.atI xs i := by cases b <;> rfl
@[simp] theorem sqd_tup (b : Bool) (xs : List PyData) : tupD [sqd b xs] = some (.tuple xs) := by cases b <;> rfl
@[simp] theorem sqd_lis (b : Bool) (xs : List PyData) : listF [sqd b xs] = some xs := by cases b <;> rfl
@[simp] theorem vAllF {α : Type} (f : α → Bool) (ps : List α) : allD [.list (ps.map fun p => PyData.bool (f p))] = some (.bool (ps.all f)) := by
  have e : (ps.map fun p => PyData.bool (f p)) = (ps.map f).map .bool := by rw [List.map_map]; rfl
  rw [e, vAll, List.all_map]; rfl
@[simp] theorem vAnyF {α : Type} (f : α → Bool) (ps : List α) : anyD [.list (ps.map fun p => PyData.bool (f p))] = some (.bool (ps.any f)) := by
  have e : (ps.map fun p => PyData.bool (f p)) = (ps.map f).map .bool := by rw [List.map_map]; rfl
  rw [e, vAny, List.any_map]; rfl
theorem beq_swap (i j : Int) : (i == j) = (j == i) := by
  rw [Bool.eq_iff_iff, beq_iff_eq, beq_iff_eq]
  exact eq_comm
/-- a short text: no text, an int below 2 ^ 1000 -/
def tny : PyData → Prop
  | .none => True
  | .bool _ => True
  | .int i => i.natAbs < 2 ^ 1000
  | _ => False
theorem tny_fact {d : PyData} (h : tny d) : d.showable = true ∧ szD d ≤ 1003 ∧ d.depth = 0 := by
  cases d with
  | none => exact ⟨rfl, by simp [szD], rfl⟩
  | bool b => exact ⟨rfl, by simp [szD], rfl⟩
  | int i =>
    have h : i.natAbs < 2 ^ 1000 := h
    have hl : i.natAbs.log2 < 1000 := by
      by_cases z : i.natAbs = 0
      · rw [z]; decide
      · exact (Nat.log2_lt z).mpr h
    exact ⟨by simp [PyData.showable]; omega, by simp only [szD]; omega, rfl⟩
  | _ => exact h.elim
theorem tny_list {xs : List PyData} (h : ∀ x ∈ xs, tny x) : PyData.showableAll xs = true ∧ szA xs ≤ 1005 * xs.length ∧ PyData.depthAll xs = 0 := by
  induction xs with
  | nil => exact ⟨rfl, by simp [szA], rfl⟩
  | cons x r ih =>
    obtain ⟨h1, h2, h3⟩ := ih fun y hy => h y (List.mem_cons_of_mem _ hy)
    obtain ⟨k1, k2, k3⟩ := tny_fact (h x List.mem_cons_self)
    refine ⟨by rw [PyData.showableAll, k1, h1]; rfl, ?_, by rw [PyData.depthAll, k3, h3]; rfl⟩
    simp only [szA, List.length_cons]
    omega
theorem repr_list {xs : List PyData} (h : ∀ x ∈ xs, tny x) (hl : xs.length ≤ 10000) : reprD [.list xs] = some (.str (PyData.list xs).shown) := by
  obtain ⟨h1, h2, h3⟩ := tny_list h
  have : repOk (.list xs) = true := by
    unfold repOk
    rw [Bool.and_eq_true, Bool.and_eq_true, decide_eq_true_eq, decide_eq_true_eq]
    refine ⟨⟨by rw [PyData.showable]; exact h1, by simp only [szD]; omega⟩, by simp only [PyData.depth]; omega⟩
  exact if_pos this
theorem repr_tuple {xs : List PyData} (h : ∀ x ∈ xs, tny x) (hl : xs.length ≤ 10000) : reprD [.tuple xs] = some (.str (PyData.tuple xs).shown) := by
  obtain ⟨h1, h2, h3⟩ := tny_list h
  have : repOk (.tuple xs) = true := by
    unfold repOk
    rw [Bool.and_eq_true, Bool.and_eq_true, decide_eq_true_eq, decide_eq_true_eq]
    refine ⟨⟨by rw [PyData.showable]; exact h1, by simp only [szD]; omega⟩, by simp only [PyData.depth]; omega⟩
  exact if_pos this
theorem ne_empty (ns : List PyData) : neD (.tuple ns) (.tuple []) = some (!ns.isEmpty) := by
  cases ns with
  | nil => rfl
  | cons x r => simp [neD, PyData.eqv, PyData.eqvAll, PyData.depth, PyData.depthAll]
theorem eq_list_ints (ns : List Int) : eqD (.list (ns.map .int)) (.list (ns.map .int)) = some true := by
  refine eqD_refl ?_ ?_
  · rw [PyData.plain]; exact plainAll_of fun x hx => by
      obtain ⟨i, _, rfl⟩ := List.mem_map.mp hx
      rfl
  · rw [PyData.depth, PySem.W.depth_ints]; decide
theorem repC_of {xs : List PyData} {k : Int} (h : k ≤ 1000000) (h0 : -1000000 ≤ k) (hl : xs.length ≤ 16) : repC xs k = true := by
  unfold repC
  rw [Bool.and_eq_true, Bool.and_eq_true, decide_eq_true_eq, decide_eq_true_eq, decide_eq_true_eq]
  refine ⟨⟨by omega, by omega⟩, ?_⟩
  have : k.toNat ≤ 1000000 := by omega
  exact Nat.le_trans (Nat.mul_le_mul hl this) (by decide)
theorem rep_one {x : PyData} (k : Int) : (List.replicate k.toNat [x]).flatten = List.replicate k.toNat x := by
  generalize k.toNat = n
  induction n with
  | zero => rfl
  | succ n ih => rw [List.replicate_succ, List.flatten_cons, ih]; rfl
end BD
namespace BD
open PySem PySem.Spec PyProof.Rows L2
open PySem (sizeLine_eq)
/-! ### sorted over a list or a tuple -/
section
variable {prog : Program} {w : World} {A : Around} {E : Value → Shared → Prop} {s : Shared} {κ : PyProof.Rows.KeyKind}
theorem collect_tup {l : Addr} {vs : List Value} {Q : List Value → Shared → Prop} {T : String} {o : Obj} {n : Nat} (hT : T = "list" ∨ T = "tuple") (ho : s.heap.get? l = some o) (hc : o.cls = .type T) (hd : o.data = .seq vs.toArray n)
    (h : Q vs { s with heap := (s.heap.push (seqObj "list" #[] 0)).update s.heap.objs.size (Obj.mapSeq (· ++ vs.toArray)) }) (hsz : vs.length ≤ sizeLine) :
    wpAny (model prog w) A (collect (.ref l)) Q E s := by
  unfold collect
  refine wpAny_bind (wpAny_runValue (codeAny_builtin entry_proto_collect' ?_))
  show wpAny _ _ (do again (.builtin "list.__iadd__" ⟨[← newList [], .ref l], []⟩)) _ _ s
  refine wpAny_bind (wpAny_newList (wpAny_pure ⟨Code.quiet_builtin _ (by decide +kernel), codeAny_builtin entry_list_iadd' ?_⟩))
  show wpAny _ _ (Builtin.List.listExtendWith (.ref s.heap.objs.size) (.ref l) (.ref s.heap.objs.size)) _ _ { s with heap := s.heap.push (seqObj "list" #[] 0) }
  unfold Builtin.List.listExtendWith
  have ho' : (s.heap.push (seqObj "list" #[] 0)).get? l = some o := Heap.get?_push_of_some _ ho
  refine wpAny_bind (wpAny_typeOf (T := T) ⟨o, ho', hc⟩ ?_)
  have h1 : (Value.type "list" == Value.type "list") = true := by rfl
  have h2 : (Value.type "tuple" == Value.type "tuple") = true := by rfl
  rw [if_pos (by rcases hT with rfl | rfl <;> simp [h1, h2])]
  refine wpAny_bind (listItems_at ho' hd ?_)
  refine wpAny_bind (listItems_at (xs := #[]) (n := 0) (Heap.get?_push_size _ rfl) rfl ?_)
  rw [if_neg (by simp)]
  refine wpAny_bind (listUpdate_at (xs := #[]) (n := 0) (Heap.get?_push_size _ rfl) rfl ?_ (Nat.zero_le _) (by show (#[] ++ vs.toArray).size ≤ sizeLine + 1; simp only [Array.size_append, List.size_toArray, List.length_nil]; omega))
  refine wpAny_pure ?_
  show wpAny (model prog w) A (do
      let o ← load s.heap.objs.size
      match o.data with
      | .seq xs _ => pure xs.toList
      | _ => unsupported "internal:collect") Q E { s with heap := (s.heap.push (seqObj "list" #[] 0)).update s.heap.objs.size (Obj.mapSeq (· ++ vs.toArray)) }
  refine wpAny_bind (wpAny_load (get?_update_seq (Heap.get?_push_size _ rfl) _) ?_)
  show wpAny _ _ (pure ((#[] : Array Value) ++ vs.toArray).toList) Q E _
  rw [show ((#[] : Array Value) ++ vs.toArray).toList = vs by simp]
  exact wpAny_pure h
open PySem.W in
theorem sorted_of_sortT {l : Addr} {vs : List Value} {kw : List (Str × Value)} {Q : Value → Shared → Prop} {T : String} {o : Obj} {n : Nat} (hT : T = "list" ∨ T = "tuple") (ho : s.heap.get? l = some o) (hc : o.cls = .type T) (hd : o.data = .seq vs.toArray n) (hL : vs.length ≤ sizeLine) (ha1 : argsOk "sorted" ⟨[.ref l], kw⟩) (ha2 : ∀ x, argsOk "list.sort" ⟨[.ref x], kw⟩)
    (body : ∀ E' : Value → Shared → Prop, wpAny (model prog w) A.in1.in1 (Builtin.«list.sort» ⟨[.ref (s.heap.objs.size + 1)], kw⟩) (fun f s' => f = .done (.ret .none) ∧ Q (.ref (s.heap.objs.size + 1)) s') E' { s with heap := copyHeap s.heap vs }) :
    wpAny (model prog w) A (call (.builtin "sorted") [.ref l] kw) Q E s := by
  refine call_function_entry_kw kind_sorted plain_sorted entry_sorted ha1 ?_
  unfold Builtin.«sorted»
  refine wpAny_bind (m := checkCount "sorted" 1 1 _) (wpAny_pure ?_)
  refine wpAny_bind (collect_tup hT ho hc hd ?_ hL)
  refine wpAny_bind (wpAny_newList ?_ hL)
  have hsz : ((s.heap.push (seqObj "list" #[] 0)).update s.heap.objs.size (Obj.mapSeq (· ++ vs.toArray))).objs.size = s.heap.objs.size + 1 := by
    rw [Heap.size_update, size_push']
  show wpAny _ _ _ _ _ { s with heap := copyHeap s.heap vs }
  rw [hsz]
  refine wpAny_bind (wpAny_holding (wpAny_call_entry_kw slot_list_sort ⟨_, copyHeap_at s.heap vs, rfl⟩ entry_list_sort ?body (ha2 _)))
  case body =>
    show wpAny (model prog w) A.in1.in1 (Builtin.«list.sort» ⟨[.ref (s.heap.objs.size + 1)], kw⟩) _ _ _
    refine wpAny_mono (body _) (fun f s' hf => ?_) fun _ _ e => e
    obtain ⟨rfl, hq⟩ := hf
    exact ⟨_, rfl, wpAny_pure ⟨_, rfl, hq⟩⟩
end
section
variable {X : Cx} {K : PySem.W.Frag}
theorem each_of {S H} : ∀ {ys : List V} {its : List Value} {ds : List PyData}, Vals ys its → RpA K S H ys ds → PySem.W.EachIs (fun v d => ∃ x, RelV x v ∧ Rp K S H x d) its ds
  | _, _, _, .nil, .nil => .nil
  | _, _, _, .cons r t, .cons p q => .cons ⟨_, r, p⟩ (each_of t q)
theorem each_back {S H} : ∀ {its : List Value} {ds : List PyData}, PySem.W.EachIs (fun v d => ∃ x, RelV x v ∧ Rp K S H x d) its ds → ∃ ys, Vals ys its ∧ RpA K S H ys ds
  | _, _, .nil => ⟨[], .nil, .nil⟩
  | _, _, .cons ⟨x, r, p⟩ t => by
    obtain ⟨ys, h1, h2⟩ := each_back t
    exact ⟨x :: ys, .cons r h1, .cons p h2⟩
def niceS (ds : List PyData) : Bool := (ds.all fun d => match d with | .tuple (_ :: _) => true | _ => false) || ds.all fun d => match d with | .none => false | .tuple _ => false | _ => true
def srtOk (ds : List PyData) : Bool := alikeP ds && niceS ds && ds.all fun d => decide (d.depth ≤ 60)
theorem srtOk_of {ds : List PyData} (h : srtOk ds = true) : PySem.W.AllAlike ds ∧ PySem.W.Sortable ds ∧ ∀ d ∈ ds, d.depth ≤ 60 := by
  unfold srtOk at h
  rw [Bool.and_eq_true, Bool.and_eq_true] at h
  obtain ⟨⟨h1, h2⟩, h3⟩ := h
  refine ⟨fun d hd e he => ?_, ?_, fun d hd => by simpa using List.all_eq_true.mp h3 d hd⟩
  · unfold alikeP at h1
    exact List.all_eq_true.mp (List.all_eq_true.mp h1 d hd) e he
  · unfold niceS at h2
    rw [Bool.or_eq_true] at h2
    rcases h2 with h2 | h2
    · refine .inl fun d hd => ?_
      have := List.all_eq_true.mp h2 d hd
      split at this
      · exact ⟨_, _, rfl⟩
      · cases this
    · refine .inr fun d hd => ?_
      have := List.all_eq_true.mp h2 d hd
      split at this
      · cases this
      · cases this
      · refine ⟨by rintro rfl; simp_all, fun xs => by rintro rfl; simp_all⟩
abbrev srtD (b : Bool) (ds : List PyData) : List PyData := ds.mergeSort (PySem.W.dataLe b id)
def rSortD (K : PySem.W.Frag) (b : Bool) : List V → Hp → VK → Prop := fun xs H Q => ∃ (S : Addr → Prop) (p : Addr) (ys : List V) (ds : List PyData), xs = [.ref p] ∧ (SqL K H p ys ∨ SqT K H p ys) ∧ RpA K S H ys ds ∧ srtOk ds = true ∧
  ∀ out q, RpA K S H out (srtD b ds) → H q = none → Q (.ref q) (upd H q (.lst out))
theorem map_id {α : Type} (l : List α) : l.map id = l := by simp
open PySem.W in
theorem sort_runD {b : Bool} {kw : List (Str × Value)} {pins : List (Addr × Obj)} {s : Shared} {σ : L2.St} {H : Hp} {p : Addr} {ys : List V} {ds : List PyData} {S : Addr → Prop} {Q : VK} (hu : X.A.units + 64 < cLine) (I : Inv X pins σ H s) (hs : SqL X.K H p ys ∨ SqT X.K H p ys) (r : RpA X.K S H ys ds) (ok : srtOk ds = true)
    (hk : ∀ a, Builtin.«list.sort» ⟨[.ref a], kw⟩ = Builtin.«list.sort» ⟨[.ref a], [(Str.ofString "reverse", .bool b)]⟩) (ha1 : argsOk "sorted" ⟨[.ref p], kw⟩) (ha2 : ∀ a, argsOk "list.sort" ⟨[.ref a], kw⟩)
    (q : ∀ out q, RpA X.K S H out (srtD b ds) → H q = none → Q (.ref q) (upd H q (.lst out))) : wpAny (model X.prog X.w) X.A (call (.builtin "sorted") [.ref p] kw) (EP X pins σ Q) X.xe s := by
  obtain ⟨ok1, ok2, ok3⟩ := srtOk_of ok
  have key : ∀ (its : List Value) (T : String) (o : Obj) (n : Nat), (T = "list" ∨ T = "tuple") → s.heap.get? p = some o → o.cls = .type T → o.data = .seq its.toArray n → Vals ys its → ys.length ≤ sizeLine → wpAny (model X.prog X.w) X.A (call (.builtin "sorted") [.ref p] kw) (EP X pins σ Q) X.xe s := by
    intro its T o n hT ho hc hd rv hz
    have e := each_of rv r
    have er : EachIs (fun v d => ∃ as, Reads s.heap v d as) its ds := e.mono fun v d ⟨x, h1, h2⟩ => Dp.reads I d x v h2.dp h1
    have hL : its.length ≤ sizeLine := by rw [← rv.length]; exact hz
    refine sorted_of_sortT hT ho hc hd hL ha1 ha2 fun E' => ?_
    rw [hk]
    have er' : EachIs (fun v d => ∃ as, Reads (sortingHeap (copyHeap s.heap its) (s.heap.objs.size + 1) its) v d as) its ds := er.mono fun _ _ ⟨as, r⟩ => ⟨as, PyProof.Rows.Reads.keeps (fun _ _ => sorting_copy_old) r⟩
    have er2 : EachIs (fun v d => ∃ as, Reads (sortingHeap (copyHeap s.heap its) (s.heap.objs.size + 1) its) v (id d) as) its ds := er'
    have ok1' : AllAlike (ds.map id) := by rw [map_id]; exact ok1
    refine list_sort_rev_vals (s := { s with heap := copyHeap s.heap its }) (κ := dataKind (sortingHeap (copyHeap s.heap its) (s.heap.objs.size + 1) its) ds) (copyHeap_at s.heap its) (SortsAt.data (s := { s with heap := sortingHeap (copyHeap s.heap its) (s.heap.objs.size + 1) its }) er' ok1 ok2 fun d hd => ?_) hL ⟨rfl, ?_⟩
    · have := ok3 d hd
      show X.A.in1.in1.units + d.depth < cLine
      have hq : X.A.in1.in1.units = X.A.units + 2 := rfl
      omega
    · have eo := sortVals_data (enc := id) b e er2 ok1'
      rw [map_id] at eo
      obtain ⟨zs, v1, v2⟩ := each_back eo
      obtain ⟨c, hc'⟩ := sortedAll_at s.heap its (sortVals (dataKind (sortingHeap (copyHeap s.heap its) (s.heap.objs.size + 1) its) ds) b its its).toArray
      have hlen : zs.length ≤ sizeLine := by rw [v1.length, sortVals_length b rfl]; exact hL
      exact ⟨.ref _, upd H (s.heap.objs.size + 1) (.lst zs), I.laid (t' := s.toks) (fun _ _ => sortedAll_old) (Nat.le_succ _) ⟨hlen, _, c, v1, hc'⟩, rfl, q _ _ v2 (I.hok.fresh (Nat.le_succ _))⟩
  rcases hs with hs | hs
  · obtain ⟨its, rv, hl, hz⟩ := I.list hs
    obtain ⟨o, ho, hc, n, hd⟩ := hl.isList
    exact key its "list" o n (.inl rfl) ho hc hd rv hz
  · obtain ⟨its, rv, hl, hz⟩ := I.tuple hs
    obtain ⟨o, ho, hc, n, hd⟩ := hl
    exact key its "tuple" o n (.inr rfl) ho hc hd rv hz
/-- a list of one item, or of none: nothing is compared -/
def rSort0 (K : PySem.W.Frag) : List V → Hp → VK → Prop := fun xs H Q => ∃ (S : Addr → Prop) (p : Addr) (ys : List V) (ds : List PyData), xs = [.ref p] ∧ (SqL K H p ys ∨ SqT K H p ys) ∧ RpA K S H ys ds ∧ ds.length < 2 ∧
  ∀ out q, RpA K S H out ds → H q = none → Q (.ref q) (upd H q (.lst out))
theorem perm_short {α : Type} {a b : List α} (h : a.Perm b) (hb : b.length < 2) : a = b := by
  match b, hb with
  | [], _ => exact List.perm_nil.mp h
  | [x], _ => exact List.perm_singleton.mp h
open PySem.W in
theorem sort_run0 {pins : List (Addr × Obj)} {s : Shared} {σ : L2.St} {H : Hp} {p : Addr} {ys : List V} {ds : List PyData} {S : Addr → Prop} {Q : VK} (I : Inv X pins σ H s) (hs : SqL X.K H p ys ∨ SqT X.K H p ys) (r : RpA X.K S H ys ds) (hl : ds.length < 2)
    (q : ∀ out q, RpA X.K S H out ds → H q = none → Q (.ref q) (upd H q (.lst out))) : wpAny (model X.prog X.w) X.A (call (.builtin "sorted") [.ref p] []) (EP X pins σ Q) X.xe s := by
  have key : ∀ (its : List Value) (T : String) (o : Obj) (n : Nat), (T = "list" ∨ T = "tuple") → s.heap.get? p = some o → o.cls = .type T → o.data = .seq its.toArray n → Vals ys its → ys.length ≤ sizeLine → wpAny (model X.prog X.w) X.A (call (.builtin "sorted") [.ref p] []) (EP X pins σ Q) X.xe s := by
    intro its T o n hT ho hc hd rv hz
    have short : its.length < 2 := by rw [← rv.length, r.length]; exact hl
    have hL : its.length ≤ sizeLine := by rw [← rv.length]; exact hz
    refine sorted_of_sortT hT ho hc hd hL (args_sorted1 _) (fun _ => args_list_sort _) fun E' => ?_
    refine Srt.list_sort_any (copyHeap_at s.heap its) hL (fun z => absurd short (by omega)) fun out hp => ⟨rfl, ?_⟩
    rw [perm_short hp short]
    obtain ⟨c, at1⟩ := sortedAll_at s.heap its its.toArray
    exact ⟨.ref _, upd H (s.heap.objs.size + 1) (.lst ys), I.laid (t' := s.toks) (fun _ _ => sortedAll_old) (Nat.le_succ _) ⟨hz, _, c, rv, at1⟩, rfl, q _ _ r (I.hok.fresh (Nat.le_succ _))⟩
  rcases hs with hs | hs
  · obtain ⟨its, rv, lay, hz⟩ := I.list hs
    obtain ⟨o, ho, hc, n, hd⟩ := lay.isList
    exact key its "list" o n (.inl rfl) ho hc hd rv hz
  · obtain ⟨its, rv, lay, hz⟩ := I.tuple hs
    obtain ⟨o, ho, hc, n, hd⟩ := lay
    exact key its "tuple" o n (.inr rfl) ho hc hd rv hz
def rSortU (K : PySem.W.Frag) : List V → Hp → VK → Prop := fun xs H Q => rSortD K false xs H Q ∨ rSort0 K xs H Q
open PySem.W in
theorem call_sortD (hu : X.A.units + 64 < cLine) : CallR X (.builtin "sorted") (rSortU X.K) := by
  intro pins s σ H xs us Q I r h
  rcases h with ⟨S, p, ys, ds, rfl, hs, rp, ok, q⟩ | ⟨S, p, ys, ds, rfl, hs, rp, ok, q⟩
  · rw [Vals.ref1 r]
    exact sort_runD hu I hs rp ok plain_is_rev (args_sorted1 _) (fun _ => args_list_sort _) q
  · rw [Vals.ref1 r]
    exact sort_run0 I hs rp ok q
theorem call_sortRD {b : Bool} (hu : X.A.units + 64 < cLine) : CallRK X (.builtin "sorted") [Str.ofString "reverse"] (fun xs zs H Q => zs = [.bl b] ∧ rSortD X.K b xs H Q) := by
  intro pins s σ H xs zs us ws Q I r rz h
  obtain ⟨rfl, S, p, ys, ds, rfl, hs, rp, ok, q⟩ := h
  rw [Vals.ref1 r]
  obtain ⟨w1, rfl, e1⟩ := vals1 rz
  obtain rfl : w1 = Value.bool b := e1
  exact sort_runD hu I hs rp ok (fun _ => rfl) (PyProof.Rows.args_sorted_rev _ _) (fun _ => PyProof.Rows.args_list_sort_rev _ _) q
def sortL (b : Bool) (ds : List PyData) : Option (List PyData) := if srtOk ds = true then some (srtD b ds) else if b = false ∧ ds.length < 2 then some ds else none
def sortF (b : Bool) : List PyData → Option (List PyData)
  | [.list xs] => sortL b xs
  | [.tuple xs] => sortL b xs
  | _ => none
theorem sortL_of {b : Bool} {ds es : List PyData} (h : sortL b ds = some es) : (srtOk ds = true ∧ es = srtD b ds) ∨ (b = false ∧ ds.length < 2 ∧ es = ds) := by
  unfold sortL at h
  split at h
  · cases h; exact .inl ⟨by assumption, rfl⟩
  · split at h
    · rename_i z
      cases h; exact .inr ⟨z.1, z.2, rfl⟩
    · cases h
theorem opF_sortT : OpF K (rSortD K true) (sortF true) := by
  intro S H xs ds es Q r e q
  unfold sortF at e
  split at e
  · obtain ⟨ok, rfl⟩ | ⟨z, _⟩ := sortL_of e
    · obtain ⟨v, rfl, r1⟩ := rpa1 r
      cases r1 with
      | lst h t => exact ⟨S, _, _, _, rfl, .inl h.sq, t, ok, fun out p ro np => q p out np ro⟩
    · cases z
  · obtain ⟨ok, rfl⟩ | ⟨z, _⟩ := sortL_of e
    · obtain ⟨v, rfl, r1⟩ := rpa1 r
      cases r1 with
      | tup h t => exact ⟨S, _, _, _, rfl, .inr h, t, ok, fun out p ro np => q p out np ro⟩
    · cases z
  · cases e
theorem opF_sort : OpF K (rSortU K) (sortF false) := by
  intro S H xs ds es Q r e q
  unfold sortF at e
  split at e
  · obtain ⟨v, rfl, r1⟩ := rpa1 r
    cases r1 with
    | lst h t =>
      obtain ⟨ok, rfl⟩ | ⟨_, sh, rfl⟩ := sortL_of e
      · exact .inl ⟨S, _, _, _, rfl, .inl h.sq, t, ok, fun out p ro np => q p out np ro⟩
      · exact .inr ⟨S, _, _, _, rfl, .inl h.sq, t, sh, fun out p ro np => q p out np ro⟩
  · obtain ⟨v, rfl, r1⟩ := rpa1 r
    cases r1 with
    | tup h t =>
      obtain ⟨ok, rfl⟩ | ⟨_, sh, rfl⟩ := sortL_of e
      · exact .inl ⟨S, _, _, _, rfl, .inr h, t, ok, fun out p ro np => q p out np ro⟩
      · exact .inr ⟨S, _, _, _, rfl, .inr h, t, sh, fun out p ro np => q p out np ro⟩
  · cases e
theorem opLF_sort : OpLF K (rSortU K) (sortL false) := by
  intro S H p xs ds es Q hp r e q
  obtain ⟨ok, rfl⟩ | ⟨_, sh, rfl⟩ := sortL_of e
  · exact .inl ⟨S, p, xs, ds, rfl, .inl (.inl (.inl hp)), r, ok, fun out p ro np => q p out np ro⟩
  · exact .inr ⟨S, p, xs, _, rfl, .inl (.inl (.inl hp)), r, sh, fun out p ro np => q p out np ro⟩
/-! ### max, min of ints -/
theorem depth_ints : ∀ ns : List Int, PyData.depthAll (ns.map .int) ≤ 1
  | [] => by simp [PyData.depthAll]
  | n :: r => by
    have := depth_ints r
    rw [List.map_cons, PyData.depthAll, PyData.depth]
    omega
def SqA (K : PySem.W.Frag) (H : Hp) (p : Addr) (ys : List V) : Prop := SqL K H p ys ∨ SqT K H p ys
def mxI (n : Int) (ns : List Int) : Int := ns.foldl max n
def mnI (n : Int) (ns : List Int) : Int := ns.foldl min n
def rBest (g : Int → List Int → Int) (K : PySem.W.Frag) : List V → Hp → VK → Prop := fun xs H Q => ∃ p n ns, xs = [.ref p] ∧ SqA K H p ((n :: ns).map V.int) ∧ Q (.int (g n ns)) H
def rBestD (g : Int → List Int → Int) (K : PySem.W.Frag) : List V → List V → Hp → VK → Prop := fun xs zs H Q => ∃ p ns d, xs = [.ref p] ∧ SqA K H p (ns.map V.int) ∧ zs = [d] ∧ Q (match ns with | [] => d | n :: r => .int (g n r)) H
theorem alike_ints (ns : List Int) : PySem.W.AlikeAll (ns.map .int) := ⟨fun x hx y hy => by
  obtain ⟨_, _, rfl⟩ := List.mem_map.mp hx
  obtain ⟨_, _, rfl⟩ := List.mem_map.mp hy
  simp [PySem.W.alike], fun x hx => by
  obtain ⟨_, _, rfl⟩ := List.mem_map.mp hx
  simp⟩
theorem reads_int {h : Heap} {v : Value} {n : Int} {as : List Addr} (r : Reads h v (.int n) as) : ∃ t, v = .int n t := by
  cases r; exact ⟨_, rfl⟩
theorem reads_ints {h : Heap} : ∀ {vs : List Value} {ns : List Int}, IntsAre vs ns → ∃ as, ReadsAll h vs (ns.map .int) as
  | _, _, .nil => ⟨_, .nil⟩
  | _, _, .cons _ _ r => by
    obtain ⟨as, h1⟩ := reads_ints r
    exact ⟨_, .cons (.int _ _) h1⟩
end
section
variable {X : Cx}
theorem cr_maxB (hc : X.calm = true) (hu : X.A.units + 64 < cLine) : CallR X (.builtin "max") (rBest mxI X.K) := by
  intro pins s σ H vs us Q I r h
  obtain ⟨p, n, ns, rfl, hs, q⟩ := h
  rw [Vals.ref1 r]
  have hd := depth_ints (n :: ns)
  have fin : ∀ (i : Nat) (its : List Value) v h' tk bs, its.toArray[i]? = some v → Reads h' v (PySem.W.maxD (.int n) (ns.map .int)) bs → (∀ b o, s.heap.get? b = some o → h'.get? b = some o) → EP X pins σ Q v { s with heap := h', toks := tk } := fun i its v h' tk bs _ rd hk => by
    rw [PySem.W.maxD_ints] at rd
    obtain ⟨t, rfl⟩ := reads_int rd
    exact ⟨.int _, H, I.kept hk, ⟨_, rfl⟩, q⟩
  rcases hs with hs | hs
  · obtain ⟨its, rv, hl, hz⟩ := I.list hs
    obtain ⟨as, rd⟩ := reads_ints (h := s.heap) rv.ints
    exact PySem.W.max_list_data (vs := its.toArray) (I.ok.hd hc) hl.isList rd (alike_ints (n :: ns)) (by have : PyData.depthAll (PyData.int n :: ns.map .int) ≤ 1 := hd; omega) fun i v h' tk bs h1 h2 h3 => fin i its v h' tk bs h1 h2 h3
  · obtain ⟨its, rv, hl, hz⟩ := I.tuple hs
    obtain ⟨as, rd⟩ := reads_ints (h := s.heap) rv.ints
    exact PySem.W.max_tuple_data (vs := its.toArray) (I.ok.hd hc) hl rd (alike_ints (n :: ns)) (by have : PyData.depthAll (PyData.int n :: ns.map .int) ≤ 1 := hd; omega) fun i v h' tk bs h1 h2 h3 => fin i its v h' tk bs h1 h2 h3
theorem cr_minB (hc : X.calm = true) (hu : X.A.units + 64 < cLine) : CallR X (.builtin "min") (rBest mnI X.K) := by
  intro pins s σ H vs us Q I r h
  obtain ⟨p, n, ns, rfl, hs, q⟩ := h
  rw [Vals.ref1 r]
  have hd := depth_ints (n :: ns)
  have fin : ∀ (i : Nat) (its : List Value) v h' tk bs, its.toArray[i]? = some v → Reads h' v (PySem.W.minD (.int n) (ns.map .int)) bs → (∀ b o, s.heap.get? b = some o → h'.get? b = some o) → EP X pins σ Q v { s with heap := h', toks := tk } := fun i its v h' tk bs _ rd hk => by
    rw [PySem.W.minD_ints] at rd
    obtain ⟨t, rfl⟩ := reads_int rd
    exact ⟨.int _, H, I.kept hk, ⟨_, rfl⟩, q⟩
  rcases hs with hs | hs
  · obtain ⟨its, rv, hl, hz⟩ := I.list hs
    obtain ⟨as, rd⟩ := reads_ints (h := s.heap) rv.ints
    exact PySem.W.min_list_data (vs := its.toArray) (I.ok.hd hc) hl.isList rd (alike_ints (n :: ns)) (by have : PyData.depthAll (PyData.int n :: ns.map .int) ≤ 1 := hd; omega) fun i v h' tk bs h1 h2 h3 => fin i its v h' tk bs h1 h2 h3
  · obtain ⟨its, rv, hl, hz⟩ := I.tuple hs
    obtain ⟨as, rd⟩ := reads_ints (h := s.heap) rv.ints
    exact PySem.W.min_tuple_data (vs := its.toArray) (I.ok.hd hc) hl rd (alike_ints (n :: ns)) (by have : PyData.depthAll (PyData.int n :: ns.map .int) ≤ 1 := hd; omega) fun i v h' tk bs h1 h2 h3 => fin i its v h' tk bs h1 h2 h3
theorem cons_int {m : Int} {y : PyData} {ys : List PyData} {ns : List Int} (e : ns.map PyData.int = y :: ys) : ∃ n r, ns = n :: r ∧ y = .int n ∧ ys = r.map .int := by
  cases ns with
  | nil => cases e
  | cons n r => cases e; exact ⟨n, r, rfl, rfl, rfl⟩
theorem cr_maxBD (hc : X.calm = true) (hu : X.A.units + 64 < cLine) : CallRK X (.builtin "max") [Str.ofString "default"] (rBestD mxI X.K) := by
  intro pins s σ H vs zs us ws Q I r rz h
  obtain ⟨p, ns, d, rfl, hs, rfl, q⟩ := h
  rw [Vals.ref1 r]
  obtain ⟨w1, rfl, e1⟩ := vals1 rz
  have hd := depth_ints ns
  have fin0 : ns.map PyData.int = [] → ∀ h' tk, (∀ b o, s.heap.get? b = some o → h'.get? b = some o) → EP X pins σ Q w1 { s with heap := h', toks := tk } := fun e h' tk hk => by
    cases ns with
    | nil => exact ⟨d, H, I.kept hk, e1, q⟩
    | cons => cases e
  have fin : ∀ (y : PyData) (ys : List PyData) (i : Nat) (its : List Value) v h' tk bs, ns.map PyData.int = y :: ys → its.toArray[i]? = some v → Reads h' v (PySem.W.maxD y ys) bs → (∀ b o, s.heap.get? b = some o → h'.get? b = some o) → EP X pins σ Q v { s with heap := h', toks := tk } := fun y ys i its v h' tk bs e _ rd hk => by
    obtain ⟨n, r, rfl, rfl, rfl⟩ := cons_int (m := 0) e
    rw [PySem.W.maxD_ints] at rd
    obtain ⟨t, rfl⟩ := reads_int rd
    exact ⟨.int _, H, I.kept hk, ⟨_, rfl⟩, q⟩
  rcases hs with hs | hs
  · obtain ⟨its, rv, hl, hz⟩ := I.list hs
    obtain ⟨as, rd⟩ := reads_ints (h := s.heap) rv.ints
    exact PySem.W.max_list_default (vs := its.toArray) (I.ok.hd hc) hl.isList rd (alike_ints ns) (by omega) fin0 fun y ys i v h' tk bs e h1 h2 h3 => fin y ys i its v h' tk bs e h1 h2 h3
  · obtain ⟨its, rv, hl, hz⟩ := I.tuple hs
    obtain ⟨as, rd⟩ := reads_ints (h := s.heap) rv.ints
    exact PySem.W.max_tuple_default (vs := its.toArray) (I.ok.hd hc) hl rd (alike_ints ns) (by omega) fin0 fun y ys i v h' tk bs e h1 h2 h3 => fin y ys i its v h' tk bs e h1 h2 h3
end
section
variable {K : PySem.W.Frag}
def bestL (g : Int → List Int → Int) (ds : List PyData) : Option PyData := match asIs ds with
  | some (n :: ns) => some (.int (g n ns))
  | _ => none
def bestD (g : Int → List Int → Int) : List PyData → Option PyData
  | [.list xs] => bestL g xs
  | [.tuple xs] => bestL g xs
  | _ => none
theorem bestL_of {g : Int → List Int → Int} {ds : List PyData} {d : PyData} (h : bestL g ds = some d) : ∃ n ns, ds = (n :: ns).map .int ∧ d = .int (g n ns) := by
  unfold bestL at h
  split at h
  · rename_i n ns e
    cases h
    exact ⟨n, ns, asIs_of e, rfl⟩
  · cases h
theorem opN_best {g : Int → List Int → Int} : OpN K (rBest g K) (bestD g) := by
  intro S H xs ds d Q r e q
  unfold bestD at e
  split at e
  · obtain ⟨n, ns, rfl, rfl⟩ := bestL_of e
    obtain ⟨v, rfl, r1⟩ := rpa1 r
    cases r1 with
    | lst h t =>
      have := rpa_ints t
      subst this
      exact ⟨_, n, ns, rfl, .inl h.sq, q _ H (Ext.refl H) (.int _)⟩
  · obtain ⟨n, ns, rfl, rfl⟩ := bestL_of e
    obtain ⟨v, rfl, r1⟩ := rpa1 r
    cases r1 with
    | tup h t =>
      have := rpa_ints t
      subst this
      exact ⟨_, n, ns, rfl, .inr h, q _ H (Ext.refl H) (.int _)⟩
  · cases e
theorem opL_best {g : Int → List Int → Int} : OpL K (rBest g K) (bestL g) := by
  intro S H p xs ds d Q hp r e q
  obtain ⟨n, ns, rfl, rfl⟩ := bestL_of e
  have := rpa_ints r
  subst this
  exact ⟨p, n, ns, rfl, .inl (.inl (.inl hp)), q _ H (Ext.refl H) (.int _)⟩
theorem lf_best {g : Int → List Int → Int} : ∀ ds d, bestD g ds = some d → lfree d = true := fun ds d h => by
  unfold bestD at h
  split at h
  · obtain ⟨n, ns, rfl, rfl⟩ := bestL_of h; rfl
  · obtain ⟨n, ns, rfl, rfl⟩ := bestL_of h; rfl
  · cases h
end
/-! ### built-in functions called with keywords -/
section
variable {X : Cx} {wx : WXs} {M W W1 W2 U U1 U2 : List Nat} {K : PySem.W.Frag}
theorem tDA_mono {mg : Str → Option Value} {ev : Env → R (List PyData)} {σ : L2.St} {H : Hp} {Q Q' : List V → Hp → Prop} (h : tDA K mg wx M W U ev σ H Q) (i : ∀ vs H', Q vs H' → Q' vs H') : tDA K mg wx M W U ev σ H Q' := by
  obtain ⟨δ, b, L, f⟩ := h
  refine ⟨δ, b, L, ?_⟩
  cases e : ev δ with
  | bad => rw [e] at f; exact f
  | exc c g x e' => rw [e] at f; exact f
  | ok ds δ' => rw [e] at f; exact fun vs H' a b' c => i _ _ (f vs H' a b' c)
def rKw (n : Nat) (r : List V → List V → Hp → VK → Prop) : List V → Hp → VK → Prop := fun xs H Q => r (xs.take n) (xs.drop n) H Q
theorem pd_bltK {id : String} {n : Nat} {ks : List Str} {r : List V → List V → Hp → VK → Prop} {f : List PyData → Option PyData} {x : Str} {p pos : Pos} {e : Expr} {es : List Expr} {kws : List Keyword} {evs evk : Env → R (List PyData)} (hc : CallRK X (.builtin id) ks r) (hf : OpN X.K (rKw n r) f) (hm : X.mg x = none) (hv : bootBuiltins x = some (.builtin id)) (ha : PAD X wx M W1 U1 (e :: es) evs) (hk : PKD X wx M W2 U2 kws evk)
    (h1 : sb U2 M = true := by rfl) (h2 : sb W1 M = true := by rfl) (h3 : dj U2 W1 = true := by rfl) (hg : Gl X x := by rfl) (hn : x ≠ "__name__" := by decide) (hdb : (x == ("__debug__" : Str)) = false := by decide)
    (he : backTo pos (starEach (e :: es) X.env) = (false, eval e X.env) :: backTo pos (starEach es X.env) := by rfl) (hpl : (backTo pos (starEach (e :: es) X.env)).any (·.1) = false := by rfl)
    (hall : (backToKw pos (keywordEach kws X.env)).all (·.1.isSome) = true := by rfl) (hnone : (backToKw pos (keywordEach kws X.env)).any (·.1.isNone) = false := by rfl) (hks : (backToKw pos (keywordEach kws X.env)).filterMap (·.1) = ks := by rfl) :
    PD X wx M (W1 ++ W2) (U1 ++ U2) (.Call (.Name x p) (e :: es) kws pos) (eApp f (eApd n ks.length evs evk)) :=
  pe_imp (pe_callBK hc hg hm hv ha hk hn hdb he hpl hall hnone hks) fun σ H Q h =>
    have q := tDA_apd h1 h2 h3 (tD_app hf h)
    tDA_mono q fun vs H1 q => tDA_mono q fun zs H2 ⟨l1, l2, q⟩ => by
      have e1 : (vs ++ zs).take n = vs := by rw [← l1]; simp
      have e2 : (vs ++ zs).drop n = zs := by rw [← l1]; simp
      have q : r ((vs ++ zs).take n) ((vs ++ zs).drop n) H2 Q := q
      rw [e1, e2] at q
      exact q
theorem pfd_bltK {id : String} {n : Nat} {ks : List Str} {r : List V → List V → Hp → VK → Prop} {f : List PyData → Option (List PyData)} {x : Str} {p pos : Pos} {e : Expr} {es : List Expr} {kws : List Keyword} {evs evk : Env → R (List PyData)} (hc : CallRK X (.builtin id) ks r) (hf : OpF X.K (rKw n r) f) (hm : X.mg x = none) (hv : bootBuiltins x = some (.builtin id)) (ha : PAD X wx M W1 U1 (e :: es) evs) (hk : PKD X wx M W2 U2 kws evk)
    (hW : (W1 ++ W2).isEmpty = true := by rfl) (hU : sb (U1 ++ U2) M = true := by rfl) (h1 : sb U2 M = true := by rfl) (h2 : sb W1 M = true := by rfl) (h3 : dj U2 W1 = true := by rfl) (hg : Gl X x := by rfl) (hn : x ≠ "__name__" := by decide) (hdb : (x == ("__debug__" : Str)) = false := by decide)
    (he : backTo pos (starEach (e :: es) X.env) = (false, eval e X.env) :: backTo pos (starEach es X.env) := by rfl) (hpl : (backTo pos (starEach (e :: es) X.env)).any (·.1) = false := by rfl)
    (hall : (backToKw pos (keywordEach kws X.env)).all (·.1.isSome) = true := by rfl) (hnone : (backToKw pos (keywordEach kws X.env)).any (·.1.isNone) = false := by rfl) (hks : (backToKw pos (keywordEach kws X.env)).filterMap (·.1) = ks := by rfl) :
    PFD X wx M (U1 ++ U2) (.Call (.Name x p) (e :: es) kws pos) (eAppF f (eApd n ks.length evs evk)) :=
  pe_imp (pe_callBK hc hg hm hv ha hk hn hdb he hpl hall hnone hks) fun σ H Q h =>
    have q := tDA_apd h1 h2 h3 (tD_appF hf hW hU h)
    tDA_mono q fun vs H1 q => tDA_mono q fun zs H2 ⟨l1, l2, q⟩ => by
      have e1 : (vs ++ zs).take n = vs := by rw [← l1]; simp
      have e2 : (vs ++ zs).drop n = zs := by rw [← l1]; simp
      have q : r ((vs ++ zs).take n) ((vs ++ zs).drop n) H2 Q := q
      rw [e1, e2] at q
      exact q
def sortRF : List PyData → Option (List PyData)
  | [.list xs, .bool b] => if b = true then sortL true xs else none
  | [.tuple xs, .bool b] => if b = true then sortL true xs else none
  | _ => none
theorem opF_sortR : OpF K (rKw 1 fun xs zs H Q => zs = [.bl true] ∧ rSortD K true xs H Q) sortRF := by
  intro S H xs ds es Q r e q
  unfold sortRF at e
  split at e
  · split at e
    · rename_i hb
      subst hb
      obtain ⟨v, v2, rfl, r1, r2⟩ := rpa2 r
      cases r2
      exact ⟨rfl, opF_sortT S H _ _ es Q (.one r1) e q⟩
    · cases e
  · split at e
    · rename_i hb
      subst hb
      obtain ⟨v, v2, rfl, r1, r2⟩ := rpa2 r
      cases r2
      exact ⟨rfl, opF_sortT S H _ _ es Q (.one r1) e q⟩
    · cases e
  · cases e
def bestLD (g : Int → List Int → Int) (ds : List PyData) (d : PyData) : Option PyData := (asIs ds).map fun ns => match ns with | [] => d | n :: r => .int (g n r)
def bestDD (g : Int → List Int → Int) : List PyData → Option PyData
  | [.list xs, d] => bestLD g xs d
  | [.tuple xs, d] => bestLD g xs d
  | _ => none
theorem opN_bestD {g : Int → List Int → Int} : OpN K (rKw 1 (rBestD g K)) (bestDD g) := by
  intro S H xs ds d Q r e q
  have fin : ∀ (v2 : V) (d2 : PyData) (ns : List Int), Rp K S H v2 d2 → d = (match ns with | [] => d2 | n :: r => .int (g n r)) → Q (match ns with | [] => v2 | n :: r => .int (g n r)) H := fun v2 d2 ns r2 e => by
    cases ns with
    | nil => exact q _ H (Ext.refl H) (by rw [e]; exact r2.ext (fun _ h => .inl h) (Ext.refl H))
    | cons n r => exact q _ H (Ext.refl H) (by rw [e]; exact .int _)
  unfold bestDD at e
  split at e
  · unfold bestLD at e
    rw [Option.map_eq_some_iff] at e
    obtain ⟨ns, e1, e⟩ := e
    obtain ⟨v, v2, rfl, r1, r2⟩ := rpa2 r
    have := asIs_of e1
    subst this
    cases r1 with
    | lst h t =>
      have := rpa_ints t
      subst this
      exact ⟨_, ns, v2, rfl, .inl h.sq, rfl, fin v2 _ ns r2 e.symm⟩
  · unfold bestLD at e
    rw [Option.map_eq_some_iff] at e
    obtain ⟨ns, e1, e⟩ := e
    obtain ⟨v, v2, rfl, r1, r2⟩ := rpa2 r
    have := asIs_of e1
    subst this
    cases r1 with
    | tup h t =>
      have := rpa_ints t
      subst this
      exact ⟨_, ns, v2, rfl, .inr h, rfl, fin v2 _ ns r2 e.symm⟩
  · cases e
end
end BD
namespace BD
open PySem PySem.Spec PyProof.Rows L2
open PySem (sizeLine_eq)
open Sem (wp)
/-! ### enumerate over a list or a tuple -/
theorem meets_enum1B {v : Value} {o : Obj} {H : Heap → Prop} (B : Begins v o H) :
    Meets (Builtin.«enumerate.__new__» ⟨[.type "enumerate", v], []⟩) (fun _ R s => H s.heap ∧
      R (.ok (.ret (.ref (s.heap.push o).objs.size))) { s with heap := (s.heap.push o).push { cls := .type "enumerate", data := .fields #[.none, .bool false, .ref s.heap.objs.size, rawInt 0, .none, .none] } }) :=
  .of_wp fun prog w A R s h => by
    obtain ⟨hp, g, d, tk, os⟩ := s; obtain ⟨h1, h⟩ := h
    have hsub := sub_enumerate
    have q1 : ∀ {A' : Around} {E : Value → Shared → Prop} {Q : Value → Shared → Prop}, Q (.ref hp.objs.size) ⟨hp.push o, g, d, tk, os⟩ → wpAny (model prog w) A' (pyIter v) Q E ⟨hp, g, d, tk, os⟩ :=
      fun q => B.iter prog w _ _ ⟨hp, g, d, tk, os⟩ _ h1 q
    wp_walk using q1
    refine wpAny_stack_any fun st => wpAny_pure ?_
    split
    · rename_i c _ _ _ _ _
      cases (c == Value.type "enumerate")
      · wp_walk using q1
        exact ⟨_, rfl, h⟩
      · wp_walk using q1
        exact ⟨_, rfl, h⟩
    · wp_walk using q1
      exact ⟨_, rfl, h⟩
section
variable {prog : Program} {w : World} {A : Around} {E : Value → Shared → Prop} {s : Shared}
theorem enum1_begins {v : Value} {o : Obj} {H : Heap → Prop} {Q : Value → Shared → Prop} (B : Begins v o H) (h1 : H s.heap)
    (h : ∀ h', IsEnum h' (s.heap.objs.size + 1) s.heap.objs.size 0 .none → h'.get? s.heap.objs.size = some o → h'.objs.size = s.heap.objs.size + 2 →
      (∀ b o, s.heap.get? b = some o → h'.get? b = some o) → Q (.ref (s.heap.objs.size + 1)) { s with heap := h' }) :
    wpAny (model prog w) A (call (.type "enumerate") [v]) Q E s := by
  refine callType_new F.called_enumerate (by decide) (F.typeCall_enumerate_1 _) (F.newCall_enumerate_1 _) (fun obj => F.args_object_init_2 obj _) F.entry_enumerate_new
    (meets_enum1B B) ⟨h1, ?_⟩
  have hz : (s.heap.push o).objs.size = s.heap.objs.size + 1 := Heap.size_push ..
  show _ ∧ _
  rw [hz]
  have he : IsEnum ((s.heap.push o).push { cls := .type "enumerate", data := .fields #[.none, .bool false, .ref s.heap.objs.size, rawInt 0, .none, .none] }) (s.heap.objs.size + 1) s.heap.objs.size 0 .none := by
    have := Heap.get?_push_size (s.heap.push o) (o := { cls := .type "enumerate", data := .fields #[.none, .bool false, .ref s.heap.objs.size, rawInt 0, .none, .none] }) rfl
    rw [hz] at this; exact this
  refine ⟨⟨_, he, rfl⟩, h _ he (Heap.get?_push_of_some _ (Heap.get?_push_size _ B.free)) (by rw [Heap.size_push, hz]) fun b o x => Heap.get?_push_of_some _ (Heap.get?_push_of_some _ x)⟩
end
def ItE (K : PySem.W.Frag) (kd : Bool) (a : Addr) : It :=
  ⟨fun i H => ∃ (xs : List V) (x : V), SqK K H kd a xs ∧ xs[i]? = some x, fun i H v H' => ∃ T x, v = .ref T ∧ H T = none ∧ H' = upd H T (.tup [.int (i : Nat), x]) ∧ ∀ xs, SqK K H kd a xs → xs[i]? = some x, fun i H => ∃ xs : List V, SqK K H kd a xs ∧ xs.length = i⟩
theorem turn_enumS {P : Program} {w : World} {K : PySem.W.Frag} {elts : List Expr} {kk : Nat} {tpos : Pos} {kd : Bool} {a e it : Addr} (hne : e ≠ it) (hea : e ≠ a) (hai : a ≠ it) :
    Turn P w K (.Tuple elts kk tpos) (ItE K kd a) [e, it] e (fun i h => (∃ old, IsEnum h e it ((i : Nat) : Int) old) ∧ SIt kd h it a i) where
  mem := by simp
  obj := fun i h st b hb => by
    obtain ⟨⟨old, he⟩, hi⟩ := st
    have e' : b = e ∨ b = it := by simpa using hb
    rcases e' with z | z
    · rw [z]; exact ⟨_, he, fun v q => nomatch q⟩
    · rw [z]; exact hi.ob
  keep := fun i h h' st k => let ⟨⟨old, he⟩, hi⟩ := st; ⟨⟨old, k e (by simp) _ he⟩, hi.at fun o q => k it (by simp) o q⟩
  item := by
    intro X hP hw hK hc i pins s σ H E I hf st hg
    subst hP hw hK
    obtain ⟨⟨old, he⟩, hit⟩ := st
    obtain ⟨xs, x, hq, hx⟩ := hg
    obtain ⟨its, rv, p⟩ := Inv.seqK I hq
    obtain ⟨u, hu, ru⟩ := rv.get hx
    have W := WalksT.enumerateD (prog := X.prog) (w := X.w) (A := X.A) (drawS (A := X.A.in1) kd (show X.A.in1.handled = none from I.ok.hd hc) it a hai its.toArray) e hne (by simp; exact ⟨hne, hea⟩) (by simp)
    have hl : i < its.toArray.size := by
      have l1 := (List.getElem?_eq_some_iff.mp hu).1
      simpa using l1
    have hin : ∀ c, c ∈ [e, it] → c < s.heap.objs.size := fun c hc => by
      have : c = e ∨ c = it := by simpa using hc
      rcases this with q | q
      · rw [q]; exact Heap.lt_size he
      · rw [q]; obtain ⟨_, e1, _⟩ := hit.ob; exact Heap.lt_size e1
    refine W.item i s _ _ hl ⟨⟨old, he⟩, ⟨hit, p⟩⟩ fun T vals h' tk hPt hTs hTt hMid hk => ⟨_, rfl, ?_⟩
    obtain ⟨t1, z1, e1, rfl⟩ := hPt
    have e1 : its[i]? = some z1 := by simpa using e1
    rw [hu] at e1
    cases e1
    have hTw := W.apart _ _ _ hMid
    refine W.go elts kk tpos i T { s with heap := h', toks := tk } _ _ hMid fun h'' st' hk2 => ?_
    have hT2 : h''.IsTuple T #[.int i t1, u] := hTt.at fun o q => hk2 T o hTw q
    have new : ObjOk X.prog X.w (upd H T (.tup [.int (i : Nat), x])) h'' T (.tup [.int (i : Nat), x]) := ⟨by show 2 ≤ sizeLine; decide, [.int i t1, u], .cons ⟨_, rfl⟩ (.cons ru .nil), hT2⟩
    have I1 : Inv X pins σ (upd H T (.tup [.int (i : Nat), x])) { s with heap := h'', toks := tk } :=
      I.turnedNew (t' := tk) (ch := [e, it]) (fun c o hb q => hk2 c o hb (hk c o hb q)) hf hTs new
    obtain ⟨st1, st2⟩ := st'
    refine ⟨.ref T, _, I1, rfl, ⟨T, x, rfl, I.hok.fresh hTs, rfl, fun l hl => by rw [Inv.seqK_inj I hl hq]; exact hx⟩, ⟨st1, st2.1⟩, fun c hcm => ?_⟩
    rw [upd_ne (Nat.ne_of_lt (Nat.lt_of_lt_of_le (hin c hcm) hTs))]
    exact (hf c hcm).1
  done := by
    intro X hP hw hK hc i pins s σ H E I hf st hg
    subst hP hw hK
    obtain ⟨⟨old, he⟩, hit⟩ := st
    obtain ⟨xs, hq, hend⟩ := hg
    obtain ⟨its, rv, p⟩ := Inv.seqK I hq
    have l1 := rv.length
    have W := WalksT.enumerateD (prog := X.prog) (w := X.w) (A := X.A) (drawS (A := X.A.in1) kd (show X.A.in1.handled = none from I.ok.hd hc) it a hai its.toArray) e hne (by simp; exact ⟨hne, hea⟩) (by simp)
    have ei : i = its.toArray.size := by simp only [List.size_toArray]; omega
    subst ei
    exact W.done s _ _ ⟨⟨old, he⟩, ⟨hit, p⟩⟩ fun h' tk hk => ⟨rfl, I.turnedL (t' := tk) (ch := [e, it]) (fun c o hb q => hk c o hb q) hf⟩
  self := fun A i s Q E st h => let ⟨⟨_, he⟩, _⟩ := st; wpAny_pyIter_enum he h
def iEnumS (K : PySem.W.Frag) (ta : TA) : TI := fun σ H R => ta σ H fun vs H1 => ∃ a kd, vs = [.ref a] ∧ (∃ xs, SqK K H1 kd a xs) ∧ R (ItE K kd a) H1
theorem pi_enumS {X : Cx} {e : Expr} {ta : TA} {p pos tpos : Pos} {elts : List Expr} {kk : Nat} (hg : Gl X "enumerate") (hm : X.mg "enumerate" = none) (ha : PA X [e] ta) (hs : starEach [e] X.env = [(false, eval e X.env)] := by rfl) :
    PI X (.Tuple elts kk tpos) (.Call (.Name "enumerate" p) [e] [] pos) (iEnumS X.K ta) := by
  refine ⟨fun pins s σ H R I h => ?_⟩
  refine Call_ (ld_blt I hg hm boot_enumerate (PyProof.Rows.callWith_type1 (thn (ha.run pos pins s σ H _ I h) fun us s1 ⟨vs, H1, I1, r1, q1⟩ => ?_) hs rfl))
  obtain ⟨a, kd, ex, ⟨xs, hq⟩, q⟩ := q1
  subst ex
  cases r1 with
  | cons r rr =>
    cases rr
    cases r
    obtain ⟨its, rv, p1⟩ := Inv.seqK I1 hq
    have la : a < s1.heap.objs.size := p1.lt
    refine enum1_begins (begS kd a its.toArray) p1 fun h' he hit hsz hk => wpAny_pyIter_enum he ?_
    have I2 : Inv X pins σ H1 { s1 with heap := h' } := I1.kept (t' := s1.toks) hk
    refine ⟨s1.heap.objs.size + 1, [s1.heap.objs.size + 1, s1.heap.objs.size], _, _, H1, rfl, I2, turn_enumS (kd := kd) (a := a) (e := s1.heap.objs.size + 1) (it := s1.heap.objs.size) (Nat.succ_ne_self _) (Nat.ne_of_gt (Nat.lt_succ_of_lt la)) (Nat.ne_of_lt la), ⟨⟨.none, he⟩, SIt.zero hit⟩, fun b hb => ?_, q⟩
    have e' : b = s1.heap.objs.size + 1 ∨ b = s1.heap.objs.size := by simpa using hb
    have hle : s1.heap.objs.size ≤ b := by
      rcases e' with z | z
      · rw [z]; exact Nat.le_add_right _ _
      · rw [z]; exact Nat.le_refl _
    exact I1.fpOk hle (I1.hok.fresh hle)
section
variable {X : Cx} {wx : WXs} {M W W1 W2 U U1 U2 : List Nat} {K : PySem.W.Frag}
def enumL : Nat → List PyData → List PyData
  | _, [] => []
  | k, x :: xs => .tuple [.int (k : Int), x] :: enumL (k + 1) xs
theorem enumL_len : ∀ xs k, (enumL k xs).length = xs.length
  | [], _ => rfl
  | x :: xs, k => by simp [enumL, enumL_len xs]
theorem enumL_get : ∀ (xs : List PyData) (k i : Nat) (a : PyData), xs[i]? = some a → (enumL k xs)[i]? = some (.tuple [.int ((k + i : Nat) : Int), a])
  | [], _, _, _, h => by simp at h
  | x :: xs, k, 0, a, h => by simp at h; simp [enumL, h]
  | x :: xs, k, i + 1, a, h => by
    simp at h
    simp [enumL]
    rw [enumL_get xs (k + 1) i a h]
    have : k + 1 + i = k + (i + 1) := by omega
    rw [this]; rfl
def iEn (ev : Ev) : Env → R (List PyData) := fun δ => (ev δ).bind fun d δ1 => ofO ((seqD d).map (enumL 0)) δ1
theorem pid_enum {e : Expr} {ev : Ev} {p pos tpos : Pos} {elts : List Expr} {kk : Nat} (hm : X.mg "enumerate" = none) (h : PD X wx M W U e ev) (hg : Gl X "enumerate" := by rfl) (hs : starEach [e] X.env = [(false, eval e X.env)] := by rfl) :
    PID X wx M W W U (.Tuple elts kk tpos) (.Call (.Name "enumerate" p) [e] [] pos) (iEn ev) := by
  refine pi_imp (pi_enumS hg hm (pa_cons h pa_nil hs) hs) fun σ H Q ⟨δ, b, L, fin⟩ => ⟨δ, b, L, ?_⟩
  unfold iEn at fin
  cases e1 : ev δ with
  | bad => rw [e1] at fin; exact fin
  | exc c g x e' => rw [e1] at fin; exact fin
  | ok d δ1 =>
    rw [e1] at fin
    intro v H1 p
    cases e3 : seqD d with
    | none => simp only [R.bind, e3] at fin; exact fin.elim
    | some ds =>
      simp only [R.bind, e3] at fin
      have fin : FinI X.K X.mg wx M W W U b σ H (.ok (enumL 0 ds) δ1) Q := fin
      obtain ⟨a, kd, xs, rfl, rA, hq, hk⟩ := sqK_of p.rp e3
      refine ⟨a, kd, rfl, ⟨xs, hq⟩, fin _ H1 p.loc p.gr ⟨fun i H2 k hi => ?_, fun H2 k => ⟨xs, hk _ k, by rw [rA.length, enumL_len]⟩, fun i H2 x H3 k hi y => ?_⟩⟩
      · rw [enumL_len] at hi
        have hi' : i < xs.length := by rw [rA.length]; exact hi
        exact ⟨xs, xs[i], hk _ k, by simp [hi']⟩
      · obtain ⟨T, x1, rfl, nT, rfl, f1⟩ := y
        obtain ⟨da, g1, g2⟩ := rA.get (f1 xs (hk _ k))
        refine ⟨Ext.upd nT, _, enumL_get ds 0 i da g1, .tup (.inl (.inl upd_same)) (.cons ?_ (.cons ?_ .nil))⟩
        · rw [Nat.zero_add]; exact .int _
        · exact (g2.trk.mono (fun _ h => h) (k.sub fun _ h => h.1)).ext (fun _ h => .inl h) (Ext.upd nT)
end
end BD
namespace BD
open PySem PySem.Spec PyProof.Rows L2
open PySem (sizeLine_eq)
section
variable {X : Cx} {wx : WXs} {M W W1 W2 U U1 U2 : List Nat} {K : PySem.W.Frag} {mg : Str → Option Value} {σ : L2.St} {H : Hp} {Q : VK}
theorem tD_mono {ev : Ev} {Q' : VK} (h : tD K mg wx M W U ev σ H Q) (i : ∀ v H', Q v H' → Q' v H') : tD K mg wx M W U ev σ H Q' := by
  obtain ⟨δ, b, L, f⟩ := h
  refine ⟨δ, b, L, ?_⟩
  cases e : ev δ with
  | bad => rw [e] at f; exact f
  | exc c g x e' => rw [e] at f; exact f
  | ok ds δ' => rw [e] at f; exact fun v H' p => i _ _ (f v H' p)
/-! ### readings of one and of two operands -/
theorem tD_bin {r : R2} {f : PyData → PyData → Option PyData} {ea eb : Ev} (hf : Op2 K r f) (h1 : sb U2 M = true) (h2 : sb W1 M = true) (h3 : dj U2 W1 = true)
    (h : tD K mg wx M (W1 ++ W2) (U1 ++ U2) (eBin f ea eb) σ H Q) : tD K mg wx M W1 U1 ea σ H fun x H1 => tD K mg wx M W2 U2 eb σ H1 fun y H2 => r x y H2 Q := by
  obtain ⟨δ, b, L, fin⟩ := h
  refine ⟨δ, b, L, ?_⟩
  unfold eBin at fin
  cases e1 : ea δ with
  | bad => rw [e1] at fin; exact fin
  | exc c g x e' => rw [e1] at fin; exact fun cls dd H' L' g' ex => fin cls dd H' L' (g'.mono inl_app) ex
  | ok d δ1 =>
    rw [e1] at fin
    intro v H1 p
    refine ⟨δ1, b, p.loc, ?_⟩
    cases e2 : eb δ1 with
    | bad => simp only [R.bind, e2] at fin; exact fin
    | exc c g x e' => simp only [R.bind, e2] at fin; exact fun cls dd H' L' g' ex => fin cls dd H' L' (p.gr.trans g' inl_app inr_app) ex
    | ok d2 δ2 =>
      simp only [R.bind, e2] at fin
      intro v2 H2 p2
      cases e3 : f d d2 with
      | none => rw [e3] at fin; exact fin.elim
      | some z =>
        rw [e3] at fin
        exact hf _ H2 v v2 d d2 z Q ((p.rp.keep p.loc p2.gr h1 h2 h3).wide inl_app) (p2.rp.wide inr_app) e3 fun v' H' ex r' => fin_op fin p2.loc (p.gr.trans p2.gr inl_app inr_app) ex r'
theorem tD_binF {r : R2} {f : PyData → PyData → Option (List PyData)} {ea eb : Ev} (hf : Op2F K r f) (h1 : sb U2 M = true) (h2 : sb U1 M = true)
    (h : tDF K mg wx M (U1 ++ U2) (eBinF f ea eb) σ H Q) : tD K mg wx M [] U1 ea σ H fun x H1 => tD K mg wx M [] U2 eb σ H1 fun y H2 => r x y H2 Q := by
  obtain ⟨δ, b, L, fin⟩ := h
  refine ⟨δ, b, L, ?_⟩
  unfold eBinF eBin at fin
  cases e1 : ea δ with
  | bad => rw [e1] at fin; exact fin
  | exc c g x e' => rw [e1] at fin; exact fun cls dd H' L' g' ex => fin cls dd H' L' (g'.mono inl_app) ex
  | ok d δ1 =>
    rw [e1] at fin
    intro v H1 p
    refine ⟨δ1, b, p.loc, ?_⟩
    cases e2 : eb δ1 with
    | bad => simp only [R.bind, e2] at fin; exact fin
    | exc c g x e' => simp only [R.bind, e2] at fin; exact fun cls dd H' L' g' ex => fin cls dd H' L' (p.gr.trans g' inl_app inr_app) ex
    | ok d2 δ2 =>
      simp only [R.bind, e2] at fin
      intro v2 H2 p2
      cases e3 : f d d2 with
      | none => rw [e3] at fin; exact fin.elim
      | some z =>
        rw [e3] at fin
        refine hf _ H2 v v2 d d2 z Q (p.rp.keep p.loc p2.gr h1 rfl (by simp [dj])) p2.rp e3 fun q vs nq rv => finF_op (U := U1 ++ U2) fin p2.loc (p.gr.trans p2.gr inl_app inr_app) ?_ nq rv
        rw [sb, List.all_append, Bool.and_eq_true]
        exact ⟨h2, h1⟩
theorem tD_un {r : V → Hp → VK → Prop} {f : PyData → Option PyData} {ea : Ev} (hf : Op1 K r f) (h : tD K mg wx M W U (eUn f ea) σ H Q) : tD K mg wx M W U ea σ H fun x H1 => r x H1 Q := by
  obtain ⟨δ, b, L, fin⟩ := h
  refine ⟨δ, b, L, ?_⟩
  unfold eUn at fin
  cases e1 : ea δ with
  | bad => rw [e1] at fin; exact fin
  | exc c g x e' => rw [e1] at fin; exact fin
  | ok d δ1 =>
    rw [e1] at fin
    intro v H1 p
    cases e3 : f d with
    | none => simp only [R.bind, e3] at fin; exact fin.elim
    | some z =>
      simp only [R.bind, e3] at fin
      exact hf _ H1 v d z Q p.rp e3 fun v' H' ex r' => fin_op fin p.loc p.gr ex r'
def Op1F (K : PySem.W.Frag) (r : V → Hp → VK → Prop) (f : PyData → Option (List PyData)) : Prop :=
  ∀ (S : Addr → Prop) (H : Hp) (x : V) (da : PyData) (es : List PyData) (Q : VK), Rp K S H x da → f da = some es →
    (∀ p vs, H p = none → RpA K S H vs es → Q (.ref p) (upd H p (.lst vs))) → r x H Q
def eUnF (f : PyData → Option (List PyData)) (a : Ev) : Ev := eUn (fun x => (f x).map .list) a
theorem tD_unF {r : V → Hp → VK → Prop} {f : PyData → Option (List PyData)} {ea : Ev} (hf : Op1F K r f) (hU : sb U M = true) (h : tDF K mg wx M U (eUnF f ea) σ H Q) : tD K mg wx M [] U ea σ H fun x H1 => r x H1 Q := by
  obtain ⟨δ, b, L, fin⟩ := h
  refine ⟨δ, b, L, ?_⟩
  unfold eUnF eUn at fin
  cases e1 : ea δ with
  | bad => rw [e1] at fin; exact fin
  | exc c g x e' => rw [e1] at fin; exact fin
  | ok d δ1 =>
    rw [e1] at fin
    intro v H1 p
    cases e3 : f d with
    | none => simp only [R.bind, e3] at fin; exact fin.elim
    | some z =>
      simp only [R.bind, e3] at fin
      exact hf _ H1 v d z Q p.rp e3 fun q vs nq rv => finF_op fin p.loc p.gr hU nq rv
/-! ### ranges as lists and tuples -/
def rgOk (i j : Int) : Bool := inR i && inR j && decide ((j - i).toNat ≤ 16777216)
theorem rgOk_of {i j : Int} (h : rgOk i j = true) : RgOk i j := by
  unfold rgOk at h
  rw [Bool.and_eq_true, Bool.and_eq_true, decide_eq_true_eq] at h
  obtain ⟨a, b⟩ := inR_of h.1.1
  obtain ⟨c, d⟩ := inR_of h.1.2
  exact ⟨a, b, c, d, by have := h.2; omega⟩
def rgL2 : PyData → PyData → Option (List PyData)
  | .int i, .int j => if rgOk i j = true then some (rngL i j) else none
  | _, _ => none
def rgT2 (x y : PyData) : Option PyData := (rgL2 x y).map .tuple
def rgL1 (x : PyData) : Option (List PyData) := rgL2 (.int 0) x
def rgT1 (x : PyData) : Option PyData := (rgL1 x).map .tuple
theorem rpa_rng {S : Addr → Prop} {H : Hp} (i j : Int) : RpA K S H (rgV i j) (rngL i j) := by
  unfold rgV rngL
  generalize List.range (j - i).toNat = l
  induction l with
  | nil => exact .nil
  | cons n r ih => exact .cons (.int _) ih
theorem rgL2_of {x y : PyData} {es : List PyData} (h : rgL2 x y = some es) : ∃ i j, x = .int i ∧ y = .int j ∧ RgOk i j ∧ es = rngL i j := by
  unfold rgL2 at h
  split at h
  · split at h
    · cases h; exact ⟨_, _, rfl, rfl, rgOk_of (by assumption), rfl⟩
    · cases h
  · cases h
def rRgL2 : R2 := fun x y H Q => ∃ i j, x = .int i ∧ y = .int j ∧ RgOk i j ∧ ∀ q, H q = none → Q (.ref q) (upd H q (.lst (rgV i j)))
def rRgT2 : R2 := fun x y H Q => ∃ i j, x = .int i ∧ y = .int j ∧ RgOk i j ∧ ∀ q, H q = none → Q (.ref q) (upd H q (.tup (rgV i j)))
def rRgL1 : V → Hp → VK → Prop := fun y H Q => ∃ j, y = .int j ∧ RgOk 0 j ∧ ∀ q, H q = none → Q (.ref q) (upd H q (.lst (rgV 0 j)))
def rRgT1 : V → Hp → VK → Prop := fun y H Q => ∃ j, y = .int j ∧ RgOk 0 j ∧ ∀ q, H q = none → Q (.ref q) (upd H q (.tup (rgV 0 j)))
theorem op2F_rg : Op2F K rRgL2 rgL2 := by
  intro S H x y da db es Q rx ry e q
  obtain ⟨i, j, rfl, rfl, ok, rfl⟩ := rgL2_of e
  cases rx
  cases ry
  exact ⟨i, j, rfl, rfl, ok, fun p np => q p _ np (rpa_rng i j)⟩
theorem op2_rg : Op2 K rRgT2 rgT2 := by
  intro S H x y da db d Q rx ry e q
  unfold rgT2 at e
  rw [Option.map_eq_some_iff] at e
  obtain ⟨es, e, rfl⟩ := e
  obtain ⟨i, j, rfl, rfl, ok, rfl⟩ := rgL2_of e
  cases rx
  cases ry
  exact ⟨i, j, rfl, rfl, ok, fun p np => q _ _ (Ext.upd np) (.tup (.inl (.inl upd_same)) (rpa_rng i j))⟩
theorem op1F_rg : Op1F K rRgL1 rgL1 := by
  intro S H x da es Q rx e q
  obtain ⟨i, j, hi, rfl, ok, rfl⟩ := rgL2_of e
  cases hi
  cases rx
  exact ⟨j, rfl, ok, fun p np => q p _ np (rpa_rng 0 j)⟩
theorem op1_rg : Op1 K rRgT1 rgT1 := by
  intro S H x da d Q rx e q
  unfold rgT1 at e
  rw [Option.map_eq_some_iff] at e
  obtain ⟨es, e, rfl⟩ := e
  obtain ⟨i, j, hi, rfl, ok, rfl⟩ := rgL2_of e
  cases hi
  cases rx
  exact ⟨j, rfl, ok, fun p np => q _ _ (Ext.upd np) (.tup (.inl (.inl upd_same)) (rpa_rng 0 j))⟩
end
section
variable {X : Cx} {wx : WXs} {M W W1 W2 U U1 U2 : List Nat} {a c : Expr} {ea eb : Ev} {p pos p2 pos2 : Pos}
theorem pfd_listRg1 (hc : X.calm = true) (hm : X.mg "list" = none) (hmr : X.mg "range" = none) (ha : PD X wx M W U a ea) (hW : W.isEmpty = true := by rfl) (hU : sb U M = true := by rfl) (hg : Gl X "list" := by rfl) (hgr : Gl X "range" := by rfl)
    (na : starEach [a] X.env = (false, eval a X.env) :: starEach [] X.env := by rfl)
    (ne : starEach [.Call (.Name "range" p2) [a] [] pos2] X.env = (false, eval (.Call (.Name "range" p2) [a] [] pos2) X.env) :: starEach [] X.env := by rfl) :
    PFD X wx M U (.Call (.Name "list" p) [.Call (.Name "range" p2) [a] [] pos2] [] pos) (eUnF rgL1 ea) := by
  have hW : W = [] := by simpa using hW
  subst hW
  exact pe_imp (pe_listRg hc hg hm (prg_1 hgr hmr ha na) ne) fun σ H Q h => tD_mono (tD_unF op1F_rg hU h) fun v H1 ⟨j, e, ok, q⟩ => ⟨j, e, ok, q⟩
theorem pfd_listRg2 (hc : X.calm = true) (hm : X.mg "list" = none) (hmr : X.mg "range" = none) (ha : PD X wx M W1 U1 a ea) (hb : PD X wx M W2 U2 c eb) (h1 : sb U2 M = true := by rfl) (h2 : sb U1 M = true := by rfl) (h4 : W1.isEmpty = true := by rfl) (h5 : W2.isEmpty = true := by rfl) (hg : Gl X "list" := by rfl) (hgr : Gl X "range" := by rfl)
    (na : starEach [a, c] X.env = (false, eval a X.env) :: starEach [c] X.env := by rfl) (nb : starEach [c] X.env = (false, eval c X.env) :: starEach [] X.env := by rfl) (hp : (backTo pos2 (starEach [c] X.env)).any (·.1) = false := by rfl)
    (ne : starEach [.Call (.Name "range" p2) [a, c] [] pos2] X.env = (false, eval (.Call (.Name "range" p2) [a, c] [] pos2) X.env) :: starEach [] X.env := by rfl) :
    PFD X wx M (U1 ++ U2) (.Call (.Name "list" p) [.Call (.Name "range" p2) [a, c] [] pos2] [] pos) (eBinF rgL2 ea eb) := by
  have h4 : W1 = [] := by simpa using h4
  have h5 : W2 = [] := by simpa using h5
  subst h4 h5
  exact pe_imp (pe_listRg hc hg hm (prg_2 hgr hmr ha hb na nb hp) ne) fun σ H Q h => tD_mono (tD_binF op2F_rg h1 h2 h) fun v H1 q => tD_mono q fun v2 H2 ⟨i, j, e, e', ok, q⟩ => ⟨i, j, e, e', ok, q⟩
theorem pd_tupRg1 (hc : X.calm = true) (hm : X.mg "tuple" = none) (hmr : X.mg "range" = none) (ha : PD X wx M W U a ea) (hg : Gl X "tuple" := by rfl) (hgr : Gl X "range" := by rfl)
    (na : starEach [a] X.env = (false, eval a X.env) :: starEach [] X.env := by rfl)
    (ne : starEach [.Call (.Name "range" p2) [a] [] pos2] X.env = (false, eval (.Call (.Name "range" p2) [a] [] pos2) X.env) :: starEach [] X.env := by rfl) :
    PD X wx M W U (.Call (.Name "tuple" p) [.Call (.Name "range" p2) [a] [] pos2] [] pos) (eUn rgT1 ea) :=
  pe_imp (pe_tupRg hc hg hm (prg_1 hgr hmr ha na) ne) fun σ H Q h => tD_mono (tD_un op1_rg h) fun v H1 ⟨j, e, ok, q⟩ => ⟨j, e, ok, q⟩
theorem pd_tupRg2 (hc : X.calm = true) (hm : X.mg "tuple" = none) (hmr : X.mg "range" = none) (ha : PD X wx M W1 U1 a ea) (hb : PD X wx M W2 U2 c eb) (h1 : sb U2 M = true := by rfl) (h2 : sb W1 M = true := by rfl) (h3 : dj U2 W1 = true := by rfl) (hg : Gl X "tuple" := by rfl) (hgr : Gl X "range" := by rfl)
    (na : starEach [a, c] X.env = (false, eval a X.env) :: starEach [c] X.env := by rfl) (nb : starEach [c] X.env = (false, eval c X.env) :: starEach [] X.env := by rfl) (hp : (backTo pos2 (starEach [c] X.env)).any (·.1) = false := by rfl)
    (ne : starEach [.Call (.Name "range" p2) [a, c] [] pos2] X.env = (false, eval (.Call (.Name "range" p2) [a, c] [] pos2) X.env) :: starEach [] X.env := by rfl) :
    PD X wx M (W1 ++ W2) (U1 ++ U2) (.Call (.Name "tuple" p) [.Call (.Name "range" p2) [a, c] [] pos2] [] pos) (eBin rgT2 ea eb) :=
  pe_imp (pe_tupRg hc hg hm (prg_2 hgr hmr ha hb na nb hp) ne) fun σ H Q h => tD_mono (tD_bin op2_rg h1 h2 h3 h) fun v H1 q => tD_mono q fun v2 H2 ⟨i, j, e, e', ok, q⟩ => ⟨i, j, e, e', ok, q⟩
end
/-! ### methods of lists and texts that answer by a value -/
section
variable {X : Cx} {wx : WXs} {M W W1 W2 U U1 U2 : List Nat} {K : PySem.W.Frag}
theorem tyV_of {S : Addr → Prop} {H : Hp} {x : V} {d : PyData} {T : String} (r : Rp K S H x d) (e : tyN d = T) (h : T = "list" ∨ T = "str") : tyV K T x H := by
  subst e
  cases r with
  | str z => rfl
  | lst q t => exact .inl ⟨rfl, _, q.sq⟩
  | non => simp [tyN] at h
  | bl => simp [tyN] at h
  | int => simp [tyN] at h
  | tup => simp [tyN] at h
def OpMt (K : PySem.W.Frag) (r : V → List V → Hp → VK → Prop) (f : PyData → List PyData → Option PyData) : Prop :=
  ∀ (S : Addr → Prop) (H : Hp) (x : V) (xs : List V) (dx : PyData) (ds : List PyData) (d : PyData) (Q : VK), Rp K S H x dx → RpA K S H xs ds → f dx ds = some d →
    (∀ v H', Ext H H' → Rp K (fun p => S p ∨ H p = none) H' v d → Q v H') → r x xs H Q
def eMet (T : String) (f : PyData → List PyData → Option PyData) (a : Ev) (c : Env → R (List PyData)) : Ev := fun δ => (a δ).bind fun x δ1 => if tyN x = T then (c δ1).bind fun ds δ2 => ofO (f x ds) δ2 else .bad
theorem pd_bm {o e : Expr} {es : List Expr} {eo : Ev} {evs : Env → R (List PyData)} {name : Str} {apos cpos : Pos} {T id : String} {r : V → List V → Hp → VK → Prop} {f : PyData → List PyData → Option PyData} (pa : PySem.PlainAttrs T) (slot : PySem.Slot T name id) (hty : typeOf (.builtin id) = pure (.type "method_descriptor")) (hm : MtR X id r) (hf : OpMt X.K r f) (hT : T = "list" ∨ T = "str")
    (ho : PD X wx M W1 U1 o eo) (ha : PAD X wx M W2 U2 (e :: es) evs) (h1 : sb U2 M = true := by rfl) (h2 : sb W1 M = true := by rfl) (h3 : dj U2 W1 = true := by rfl)
    (hbase : attributeBase o name X.env (eval o X.env) = eval o X.env := by rfl)
    (hfew : ((backTo cpos (starEach (e :: es) X.env)).all (fun x => !x.1) && (backToKw cpos (keywordEach [] X.env)).all (fun x => x.1.isSome)
      && decide ((e :: es).length + ([] : List Keyword).length + (if ([] : List Keyword).isEmpty then 0 else 1) < 30)) = true := by rfl)
    (hline : (apos.endLine == cpos.line) = true := by rfl) (hs : starEach (e :: es) X.env = (false, eval e X.env) :: starEach es X.env := by rfl) (hplain : (backTo cpos (starEach es X.env)).any (·.1) = false := by rfl) :
    PD X wx M (W1 ++ W2) (U1 ++ U2) (.Call (.Attribute o name apos) (e :: es) [] cpos) (eMet T f eo evs) := by
  refine pe_imp (pe_bm pa slot hty hm ho ha hbase hfew hline hs hplain) fun σ H Q ⟨δ, b, L, fin⟩ => ⟨δ, b, L, ?_⟩
  unfold eMet at fin
  cases e1 : eo δ with
  | bad => rw [e1] at fin; exact fin
  | exc c g x e' => rw [e1] at fin; exact fun cls dd H' L' g' ex => fin cls dd H' L' (g'.mono inl_app) ex
  | ok d δ1 =>
    rw [e1] at fin
    intro v H1 p
    simp only [R.bind] at fin
    by_cases ht : tyN d = T
    · rw [if_pos ht] at fin
      refine ⟨tyV_of p.rp ht hT, δ1, b, p.loc, ?_⟩
      cases e2 : evs δ1 with
      | bad => rw [e2] at fin; exact fin
      | exc c g x e' => rw [e2] at fin; exact fun cls dd H' L' g' ex => fin cls dd H' L' (p.gr.trans g' inl_app inr_app) ex
      | ok ds δ2 =>
        rw [e2] at fin
        intro vs H2 L2 g2 r2
        cases e3 : f d ds with
        | none => simp only [e3] at fin; exact fin.elim
        | some z =>
          simp only [e3] at fin
          exact hf _ H2 v vs d ds z Q ((p.rp.keep p.loc g2 h1 h2 h3).wide inl_app) (r2.wide inr_app) e3 fun v' H' ex r' => fin_op fin L2 (p.gr.trans g2 inl_app inr_app) ex r'
    · rw [if_neg ht] at fin; exact fin.elim
def cntF : PyData → List PyData → Option PyData
  | .list xs, [d] => if min (PyData.depthAll xs) d.depth ≤ 60 then some (.int (xs.countP fun y => PyData.eqv y d : Nat)) else none
  | _, _ => none
def rCntL (K : PySem.W.Frag) : V → List V → Hp → VK → Prop := fun x xs H Q => ∃ (y : V) (ds : List PyData) (d : PyData), xs = [y] ∧ Dp K H x (.list ds) ∧ Dp K H y d ∧ min (PyData.depthAll ds) d.depth ≤ 60 ∧ Q (.int (ds.countP fun y => PyData.eqv y d : Nat)) H
theorem mt_lcountD (hu : X.A.units + 64 < cLine) : MtR X "list.count" (rCntL X.K) := by
  intro pins s σ H x xs v us Q I rx rxs h
  obtain ⟨y, ds, d, rfl, hx, hy, hdep, q⟩ := h
  have hpx : PyData.plainAll ds = true := by have := dp_plain hx; simpa [PyData.plain] using this
  cases hx with
  | @lst p _ _ hs ha =>
    cases rx
    obtain ⟨u, rfl, ru⟩ := rxs.one
    obtain ⟨as, r1⟩ := Dp.reads I d y u hy ru
    obtain ⟨its, rv, pl, hlen⟩ := I.list hs
    obtain ⟨bs, r2⟩ := Dp.readsAll I ds _ its ha rv
    have pl' : s.heap.IsList p its.toArray := by
      obtain ⟨ob, n, ho, hc, hdn, hdt⟩ := pl
      exact ⟨ob, ho, hc, n, hdt⟩
    exact PySem.SeqAt.count_list_data pl' (show ReadsAll s.heap its.toArray.toList ds bs from r2) r1 hpx (dp_plain hy) (by omega) ⟨.int (ds.countP fun y => PyData.eqv y d : Nat), H, I.tok _, ⟨s.toks, rfl⟩, q⟩
theorem opMt_count : OpMt K (rCntL K) cntF := by
  intro S H x xs dx ds d Q rx rxs e q
  unfold cntF at e
  split at e
  · rename_i ys z
    split at e
    · rename_i h
      cases e
      obtain ⟨v, rfl, r1⟩ := rpa1 rxs
      exact ⟨v, ys, z, rfl, rx.dp, r1.dp, h, q _ H (Ext.refl H) (.int _)⟩
    · cases e
  · cases e
end
theorem iop_mulJ {X : Cx} : OpR X (inplaceOp .Mult) rMulI := iop_mul.or (opI fun _ _ _ _ _ _ _ hc q => imul_int q hc.ok)
end BD
namespace BD
open PySem
section
variable {δ : Env}
@[simp] theorem vEn (ev : Ev) : iEn ev δ = (ev δ).bind fun d δ1 => ofO ((seqD d).map (enumL 0)) δ1 := rfl
@[simp] theorem vMet (T : String) (f : PyData → List PyData → Option PyData) (a : Ev) (c : Env → R (List PyData)) : eMet T f a c δ = (a δ).bind fun x δ1 => if tyN x = T then (c δ1).bind fun ds δ2 => ofO (f x ds) δ2 else .bad := rfl
@[simp] theorem vUnF (f : PyData → Option (List PyData)) (a : Ev) : eUnF f a δ = (a δ).bind fun x δ1 => ofO ((f x).map .list) δ1 := rfl
@[simp] theorem v_cnt (ns : List Int) (k : Int) : cntF (.list (ns.map .int)) [.int k] = some (.int (ns.count k : Nat)) := by
  have e : (ns.map PyData.int).countP (fun y => PyData.eqv y (.int k)) = ns.count k := by
    induction ns with
    | nil => rfl
    | cons n ns ih => rw [List.map_cons, List.countP_cons, List.count_cons, ih]; rfl
  have h : min (PyData.depthAll (ns.map .int)) (PyData.int k).depth ≤ 60 := Nat.le_trans (Nat.min_le_right _ _) (by show 0 ≤ 60; omega)
  simp only [cntF, e, if_pos h]
@[simp] theorem v_cntB (bs : List PyData) (b : Bool) : cntF (.list bs) [.bool b] = some (.int (bs.countP fun y => PyData.eqv y (.bool b) : Nat)) := by
  have h : min (PyData.depthAll bs) (PyData.bool b).depth ≤ 60 := Nat.le_trans (Nat.min_le_right _ _) (by show 0 ≤ 60; omega)
  simp only [cntF, if_pos h]
@[simp] theorem eqvBB (a b : Bool) : PyData.eqv (.bool a) (.bool b) = (a == b) := by cases a <;> cases b <;> rfl
@[simp] theorem v_append (xs : List PyData) (d : PyData) : fAppend xs [d] = if xs.length < 16777216 then some (.none, xs ++ [d]) else none := rfl
@[simp] theorem v_neg (i : Int) : negD (.int i) = some (.int (-i)) := rfl
@[simp] theorem v_tyL (xs : List PyData) : tyN (.list xs) = "list" := rfl
end
/-! sorted -/
def sdn (ns : List Int) : List Int := ns.mergeSort fun a b => decide (b ≤ a)
def sup (ns : List Int) : List Int := ns.mergeSort fun a b => decide (a ≤ b)
theorem srtOk_ints (ns : List Int) : srtOk (ns.map .int) = true := by
  unfold srtOk
  rw [Bool.and_eq_true, Bool.and_eq_true]
  refine ⟨⟨?_, ?_⟩, ?_⟩
  · unfold alikeP
    simp [PySem.W.alike]
  · unfold niceS
    rw [Bool.or_eq_true]
    right
    simp
  · simp [PyData.depth]
theorem srtD_up (ns : List Int) : srtD false (ns.map .int) = (sup ns).map .int := by
  unfold srtD sup
  rw [List.map_mergeSort]
  intro a _ b _
  have := congrFun (congrFun (PySem.W.dataLe_int (β := Int) id) a) b
  exact this.symm
theorem srtD_dn (ns : List Int) : srtD true (ns.map .int) = (sdn ns).map .int := by
  unfold srtD sdn
  rw [List.map_mergeSort]
  intro a _ b _
  have := congrFun (congrFun (PySem.W.dataGe_int (β := Int) id) a) b
  exact this.symm
@[simp] theorem sortL_up (ns : List Int) : sortL false (ns.map .int) = some ((sup ns).map .int) := by
  unfold sortL
  rw [if_pos (srtOk_ints ns), srtD_up]
@[simp] theorem sortL_dn (ns : List Int) : sortL true (ns.map .int) = some ((sdn ns).map .int) := by
  unfold sortL
  rw [if_pos (srtOk_ints ns), srtD_dn]
@[simp] theorem sortF_l (b : Bool) (xs : List PyData) : sortF b [.list xs] = sortL b xs := rfl
@[simp] theorem sortF_t (b : Bool) (xs : List PyData) : sortF b [.tuple xs] = sortL b xs := rfl
@[simp] theorem sortF_q (b c : Bool) (xs : List PyData) : sortF b [sqd c xs] = sortL b xs := by cases c <;> rfl
@[simp] theorem sortRF_q (c : Bool) (xs : List PyData) : sortRF [sqd c xs, .bool true] = sortL true xs := by cases c <;> rfl
@[simp] theorem sortRF_l (xs : List PyData) : sortRF [.list xs, .bool true] = sortL true xs := rfl
@[simp] theorem sortRF_t (xs : List PyData) : sortRF [.tuple xs, .bool true] = sortL true xs := rfl
theorem sdn_perm (ns : List Int) : (sdn ns).Perm ns := List.mergeSort_perm ns _
theorem sup_perm (ns : List Int) : (sup ns).Perm ns := List.mergeSort_perm ns _
theorem sdn_sorted (ns : List Int) : (sdn ns).Pairwise (· ≥ ·) := by
  have := List.pairwise_mergeSort (le := fun a b : Int => decide (b ≤ a)) (fun a b c h1 h2 => by simp at *; omega) (fun a b => by simp; omega) ns
  exact this.imp fun h => by simpa using h
theorem sup_sorted (ns : List Int) : (sup ns).Pairwise (· ≤ ·) := by
  have := List.pairwise_mergeSort (le := fun a b : Int => decide (a ≤ b)) (fun a b c h1 h2 => by simp at *; omega) (fun a b => by simp; omega) ns
  exact this.imp fun h => by simpa using h
/-! max, min -/
@[simp] theorem bestD_q (g : Int → List Int → Int) (b : Bool) (n : Int) (ns : List Int) : bestD g [sqd b ((n :: ns).map .int)] = some (.int (g n ns)) := by
  cases b <;> simp [sqd, bestD, bestL, asIs]
@[simp] theorem bestD_l (g : Int → List Int → Int) (n : Int) (ns : List Int) : bestD g [.list (.int n :: ns.map .int)] = some (.int (g n ns)) := by
  simp [bestD, bestL, asIs]
@[simp] theorem bestD_t (g : Int → List Int → Int) (n : Int) (ns : List Int) : bestD g [.tuple (.int n :: ns.map .int)] = some (.int (g n ns)) := by
  simp [bestD, bestL, asIs]
theorem mxI_ge : ∀ (ns : List Int) (n : Int), n ≤ mxI n ns ∧ ∀ x ∈ ns, x ≤ mxI n ns
  | [], n => ⟨Int.le_refl _, fun _ h => by simp at h⟩
  | y :: r, n => by
    obtain ⟨h1, h2⟩ := mxI_ge r (max n y)
    have e : mxI n (y :: r) = mxI (max n y) r := rfl
    rw [e]
    refine ⟨by omega, fun x hx => ?_⟩
    rcases List.mem_cons.mp hx with rfl | hx
    · omega
    · exact h2 x hx
theorem mxI_mem : ∀ (ns : List Int) (n : Int), mxI n ns = n ∨ mxI n ns ∈ ns
  | [], n => .inl rfl
  | y :: r, n => by
    have e : mxI n (y :: r) = mxI (max n y) r := rfl
    rw [e]
    rcases mxI_mem r (max n y) with h | h
    · rw [h]
      rcases Int.le_total n y with q | q
      · right; rw [Int.max_eq_right q]; exact List.mem_cons_self
      · left; exact Int.max_eq_left q
    · exact .inr (List.mem_cons_of_mem _ h)
/-! ranges -/
theorem rgL2_ints (i j : Int) (h : rgOk i j = true) : rgL2 (.int i) (.int j) = some (rngL i j) := by simp [rgL2, h]
@[simp] theorem enumL_nil (k : Nat) : enumL k [] = [] := rfl
@[simp] theorem enumL_cons (k : Nat) (x : PyData) (xs : List PyData) : enumL k (x :: xs) = .tuple [.int (k : Int), x] :: enumL (k + 1) xs := rfl
/-! slots behind a comprehension -/
def rsE : Nat → List Nat → Env → Env → Env
  | _, _, _, [] => []
  | k, vs, a :: δ, b :: δ' => (if k ∈ vs then a else b) :: rsE (k + 1) vs δ δ'
  | k, vs, [], b :: δ' => (if k ∈ vs then none else b) :: rsE (k + 1) vs [] δ'
theorem rsE_get : ∀ (k : Nat) (vs : List Nat) (δ δ' : Env) (i : Nat), (rsE k vs δ δ')[i]? = if i < δ'.length then some (if k + i ∈ vs then (δ[i]?.getD none) else (δ'[i]?.getD none)) else none
  | _, _, δ, [], i => by cases δ <;> simp [rsE]
  | k, vs, a :: δ, b :: δ', 0 => by simp [rsE]
  | k, vs, a :: δ, b :: δ', i + 1 => by
    rw [rsE, List.getElem?_cons_succ, rsE_get (k + 1) vs δ δ' i]
    have : k + 1 + i = k + (i + 1) := by omega
    simp [this]
  | k, vs, [], b :: δ', 0 => by simp [rsE]
  | k, vs, [], b :: δ', i + 1 => by
    rw [rsE, List.getElem?_cons_succ, rsE_get (k + 1) vs [] δ' i]
    have : k + 1 + i = k + (i + 1) := by omega
    simp [this]
@[simp] theorem rest_rs (vs : List Nat) (δ δ' : Env) : rest vs δ δ' = rsE 0 vs δ δ' := by
  apply List.ext_getElem?
  intro i
  rw [rsE_get]
  unfold rest
  rw [List.getElem?_map]
  by_cases h : i < δ'.length
  · rw [List.getElem?_range h, if_pos h]
    simp
  · rw [if_neg h, List.getElem?_eq_none (by simp; omega)]
    rfl
@[simp] theorem rsE_nil (k : Nat) (vs : List Nat) (δ : Env) : rsE k vs δ [] = [] := by cases δ <;> rfl
@[simp] theorem rsE_cons (k : Nat) (vs : List Nat) (a b : Option PyData) (δ δ' : Env) : rsE k vs (a :: δ) (b :: δ') = (if k ∈ vs then a else b) :: rsE (k + 1) vs δ δ' := rfl
theorem for_ {g : PyData → Env → Option Env} {it : Env → R (List PyData)} {body : Sv} {δ δ1 : Env} {ds : List PyData} {o : O} (h : it δ = .ok ds δ1) (h2 : forL g body ds δ1 = o) : sFor g it body δ = o := by
  rw [vFor, h]
  exact h2
end BD
/-! a set made of a list of ints -/
namespace BD
open PySem PySem.Spec PyProof.Rows L2
section
variable {P : Program} {w : World} {A : Around} {E : Value → Shared → Prop} {s : Shared}
/-- a set just made -/
abbrev nSet (w : World) : Obj := { cls := .type "set", dict := none, data := .set #[] 0 (.fresh 0 0 (!w.params.followText "set-order")) }
abbrev hSet (w : World) (h : Heap) : Heap := h.push (nSet w)
theorem hSet_get (w : World) (h : Heap) : (hSet w h).get? h.objs.size = some (nSet w) := Heap.get?_push_size _ rfl
theorem hSet_old {w : World} {h : Heap} {b : Addr} {o : Obj} (e : h.get? b = some o) : (hSet w h).get? b = some o := Heap.get?_push_of_some _ e
theorem hSet_size (w : World) (h : Heap) : (hSet w h).objs.size = h.objs.size + 1 := Heap.size_push ..
theorem neA {l n m : Nat} (h : l < n) (e : m = n + 1) : l ≠ m := by omega
theorem neB {l n m : Nat} (h : l < n) (e : m = n + 1) : n ∉ [m, l] := by simp; omega
theorem neC {b n m : Nat} (h : b < n) (e : m = n + 1) : b ∉ [n, m] := by simp; omega
/-- what set(list) leaves -/
def AfterL (w : World) (s : Shared) (ns : List Int) (s2 : Shared) : Prop :=
  ∃ (h2 : Heap) (tk n : Nat), s2 = { s with heap := h2, toks := tk } ∧ (SetR w h2 s.heap.objs.size (fun j => decide (j ∈ ns)) n ∧ n ≤ ns.length) ∧ ∀ b o, s.heap.get? b = some o → h2.get? b = some o
theorem call_set_li {l : Addr} {items : Array Value} (ns : List Int) {Q : Value → Shared → Prop} (nh : A.handled = none) (il : s.heap.IsList l items) (ia : IntsAre items.toList ns) (few : ns.length + 1 < scanBound)
    (fin : ∀ s2, AfterL w s ns s2 → Q (.ref s.heap.objs.size) s2) : wpAny (model P w) A (call (.type "set") [.ref l]) Q E s := by
  have hz : items.size = ns.length := (Array.length_toList ..).symm.trans (IntsAre.length ia)
  obtain ⟨m0, m1, hmro⟩ := F.called_set.mro
  have f1 := F.called_set.made
  have f2 := F.called_set.sub
  have f3 := F.called_set.notType
  have f4 := F.called_set.canCreate
  have f5 := F.typeCall_set_1 (.ref l)
  refine wpAny_call (codeAny_of_tree (show wpAny _ _ (callAny (.type "set") _) _ _ _ from wpAny_pure ⟨Code.quiet_builtin _ (by decide +kernel), codeAny_builtin F.entry_type_call ?_⟩))
  rw [Around.under_plain (weight_type_call_type "set" [.ref l] []) rfl]
  repeat (any_goals (first | assumption | wp_step))
  refine codeAny_mono (code_set_led1 (.ref l) (E := E) (Q₁ := fun v s1 => v = .ref s.heap.objs.size ∧ s1 = { s with heap := hSet w s.heap }) ⟨rfl, rfl⟩) fun r s1 hr => ?_
  rcases r with e | fl
  · exact hr
  cases fl with
  | ret v =>
    obtain ⟨h1, h2⟩ : v = .ref s.heap.objs.size ∧ s1 = { s with heap := hSet w s.heap } := hr
    subst h1
    subst h2
    have g0 := hSet_get w s.heap
    have ty : Shared.TypeIs { s with heap := hSet w s.heap } (.ref s.heap.objs.size) "set" := ⟨_, g0, rfl⟩
    have f6 := F.called_set.init.lookup
    have f7 := F.called_set.init.bind (.ref s.heap.objs.size)
    repeat (any_goals (first | assumption | wp_step))
    refine codeAny_mono (codeAny_call_builtin (R := wants (fun v s2 => v = .none ∧ AfterL w s ns s2) E) F.called_set.init.plain F.entry_set_init (check_set_init_1 ty ?_)) fun r2 s2 hr2 => ?_
    · obtain ⟨⟨oc, od, ox, os⟩, hol, hcl, nl, hdl⟩ := il
      simp only at hcl hdl
      subst hcl
      subst hdl
      have gl := hSet_old (w := w) hol
      have n1 := F.sub_list_set
      have n2 := F.sub_list_frozenset
      have n3 : (Value.type "list" == Value.type "dict") = false := by decide
      have il1 : (hSet w s.heap).IsList l items := ⟨_, gl, rfl, nl, rfl⟩
      unfold Builtin.«set.__init__» noKeywords Builtin.Frozenset.updateFrom
      generalize hp : pyIter = pi
      wp_walk
      subst hp
      refine wpAny_pyIter_list il1 (wpAny_bind (wpAny_runValue ?_))
      have lt := Heap.lt_size hol
      have sz := hSet_size w s.heap
      have a1 : l ≠ (hSet w s.heap).objs.size := neA lt sz
      have a2 : s.heap.objs.size ∉ [(hSet w s.heap).objs.size, l] := neB lt sz
      refine set_update_ints ((Walks.list (show A.in1.in1.in1.handled = none by simp [nh]) _ l a1 items).toS) s.heap.objs.size a2 ns hz few (fun i v hv => ?_) (items.size - 0) 0 _ (by omega) (Nat.zero_le _) ⟨⟨_, Heap.get?_push_size _ rfl, rfl, rfl⟩, il1.push _⟩ ⟨0, Nat.le_refl 0, setR_new_at (Heap.get?_push_of_some _ g0)⟩ ?_
      · have hi : i < ns.length := hz ▸ (Array.getElem?_eq_some_iff.mp hv).1
        obtain ⟨t, e⟩ := PyProof.Rows.IntsAre.int_at ia i v (by rw [Array.getElem?_toList]; exact hv)
        exact ⟨ns[i], t, List.getElem?_eq_getElem hi, by rw [e, List.getD_eq_getElem?_getD, List.getElem?_eq_getElem hi]; rfl⟩
      · intro s3 n hm hn hS
        obtain ⟨h3, g3, d3, tk, o3⟩ := s3
        obtain rfl : g3 = s.gens := hm.gens
        obtain rfl : d3 = s.drawn := hm.drawn
        obtain rfl : o3 = s.os := hm.os
        show wpAny _ _ _ _ _ _
        refine wpAny_pure ?_
        show wpAny _ _ (ret Value.none) _ _ _
        rw [hz] at hn
        refine wpAny_pure ⟨rfl, h3, tk, n, rfl, ⟨hS, hn⟩, fun b o e => ?_⟩
        have lb := Heap.lt_size e
        exact hm.heap b o (neC lb sz) (Heap.get?_push_of_some _ (hSet_old e))
    · rcases r2 with e | fl
      · exact hr2
      cases fl with
      | ret v =>
        obtain ⟨h1, h2, tk, n, h3, q, k⟩ : v = .none ∧ AfterL w s ns s2 := hr2
        subst h1
        subst h3
        repeat (any_goals (first | assumption | wp_step))
        exact fin _ ⟨h2, tk, n, rfl, q, k⟩
      | _ => exact False.elim hr2
  | _ => exact False.elim hr
end
end BD
/-! list(zip(xs, ys)) of two lists -/
namespace BD
open PySem PySem.Spec PyProof.Rows
/-- where a zip's parts lie -/
structure Zp where
  z : Addr
  TI : Addr
  TO : Addr
  i1 : Addr
  i2 : Addr
  l1 : Addr
  l2 : Addr
def Zp.ap (D : Zp) : Prop := ZipApart D.z D.TI D.TO D.i1 D.i2 D.l1 D.l2
structure Zp.Lt (D : Zp) (S : Addr) : Prop where
  z : D.z < S
  TI : D.TI < S
  TO : D.TO < S
  i1 : D.i1 < S
  i2 : D.i2 < S
  l1 : D.l1 < S
  l2 : D.l2 < S
/-- a zip behind i pairs; its last pair is out and stands behind S -/
structure ZSt (D : Zp) (xs ys : Array Value) (S : Addr) (i : Nat) (h : Heap) : Prop where
  ti : IsPair h D.TI (.ref D.i1) (.ref D.i2)
  it1 : h.IsListIter D.i1 D.l1 i
  it2 : h.IsListIter D.i2 D.l2 i
  a1 : h.IsList D.l1 xs
  a2 : h.IsList D.l2 ys
  zz : (IsZip h D.z D.TI D.TO .none ∧ ∃ a b, IsPair h D.TO a b) ∨ ∃ T f oT, IsZipHeld h D.z D.TI D.TO T f ∧ h.get? T = some oT ∧ S < T
def Zkeep (D : Zp) (h h' : Heap) : Prop := ∀ c o, c ≠ D.z → c ≠ D.TO → c ≠ D.i1 → c ≠ D.i2 → h.get? c = some o → h'.get? c = some o
theorem ZSt.frame {D : Zp} {xs ys : Array Value} {S : Addr} {i : Nat} {h h' : Heap} (L : D.Lt S) (st : ZSt D xs ys S i h) (k : ∀ b o, b ≠ S → h.get? b = some o → h'.get? b = some o) : ZSt D xs ys S i h' := by
  have n : ∀ {c : Addr}, c < S → ∀ o, h.get? c = some o → h'.get? c = some o := fun q o e => k _ o (Nat.ne_of_lt q) e
  refine ⟨n L.TI _ st.ti, st.it1.at (n L.i1), st.it2.at (n L.i2), st.a1.at (n L.l1), st.a2.at (n L.l2), ?_⟩
  rcases st.zz with ⟨q1, a, b, q2⟩ | ⟨T, f, oT, q1, q2, q3⟩
  · exact .inl ⟨n L.z _ q1, a, b, n L.TO _ q2⟩
  · exact .inr ⟨T, f, oT, n L.z _ q1, k _ _ (Nat.ne_of_gt q3) q2, q3⟩
section
variable {P : Program} {w : World} {A : Around} {E : Value → Shared → Prop} {s : Shared} {D : Zp} {xs ys : Array Value} {S : Addr} {i : Nat}
theorem zst_item {x y : Value} {Q : Option Value → Shared → Prop} (ap : D.ap) (L : D.Lt S) (st : ZSt D xs ys S i s.heap) (hx : xs[i]? = some x) (hy : ys[i]? = some y) (hS : S < s.heap.objs.size)
    (go : ∀ h', ZSt D xs ys S (i + 1) h' → IsPair h' s.heap.objs.size x y → Zkeep D s.heap h' → Q (some (.ref s.heap.objs.size)) { s with heap := h' }) : wpAny (model P w) A (pyNext (.ref D.z)) Q E s := by
  rcases st.zz with ⟨q1, a, b, q2⟩ | ⟨T, f, oT, q1, q2, q3⟩
  · refine wpAny_pyNext_zip_item ap q1 st.ti q2 st.it1 st.it2 st.a1 st.a2 hx hy fun h' a1 a2 a3 a4 a5 _ k => ?_
    refine go h' ⟨k _ _ ap.TIz ap.TITO ap.TIi1 ap.TIi2 st.ti, a3, a4, st.a1.at fun o e => k _ o ap.l1z ap.l1TO ap.l1i1 ap.l1i2 e, st.a2.at fun o e => k _ o ap.l2z ap.l2TO ap.l2i1 ap.l2i2 e, .inr ⟨s.heap.objs.size, false, _, a1, a5, hS⟩⟩ a5 fun c o c1 c2 c3 c4 e => k c o c1 c2 c3 c4 e
  · refine wpAny_pyNext_zip_item_held ap q1 q2 st.ti st.it1 st.it2 st.a1 st.a2 hx hy fun h' a1 a3 a4 a5 _ k => ?_
    have t1 : T ≠ D.z := Nat.ne_of_gt (Nat.lt_trans L.z q3)
    have t2 : T ≠ D.i1 := Nat.ne_of_gt (Nat.lt_trans L.i1 q3)
    have t3 : T ≠ D.i2 := Nat.ne_of_gt (Nat.lt_trans L.i2 q3)
    refine go h' ⟨k _ _ ap.TIz ap.TIi1 ap.TIi2 st.ti, a3, a4, st.a1.at fun o e => k _ o ap.l1z ap.l1i1 ap.l1i2 e, st.a2.at fun o e => k _ o ap.l2z ap.l2i1 ap.l2i2 e, .inr ⟨T, true, oT, a1, k _ _ t1 t2 t3 q2, q3⟩⟩ a5 fun c o c1 _ c3 c4 e => k c o c1 c3 c4 e
theorem zst_done {Q : Option Value → Shared → Prop} (ap : D.ap) (nh : A.handled = none) (st : ZSt D xs ys S i s.heap) (hend : xs[i]? = none ∨ ys[i]? = none)
    (go : ∀ h', Zkeep D s.heap h' → Q none { s with heap := h' }) : wpAny (model P w) A (pyNext (.ref D.z)) Q E s := by
  rcases st.zz with ⟨q1, a, b, q2⟩ | ⟨T, f, oT, q1, q2, q3⟩
  · exact wpAny_pyNext_zip_end nh ap q1 st.ti q2 st.it1 st.it2 st.a1 st.a2 hend fun h' k => go h' fun c o c1 c2 c3 c4 e => k c o c1 c2 c3 c4 e
  · exact wpAny_pyNext_zip_end_held nh ap q1 q2 st.ti st.it1 st.it2 st.a1 st.a2 hend fun h' k => go h' fun c o c1 _ c3 c4 e => k c o c1 c3 c4 e
abbrev liO (acc : Array Value) (c : Nat) : Obj := { cls := .type "list", dict := none, data := .seq acc c, slots := #[] }
/-- the pairs that are out -/
def ZOut (xs ys : Array Value) (S : Addr) (h : Heap) (Ts : List Addr) : Prop := ∀ (j : Nat) (T : Addr), Ts[j]? = some T → S < T ∧ ∃ x y, xs[j]? = some x ∧ ys[j]? = some y ∧ IsPair h T x y
/-- what the loop leaves -/
def ZEnd (D : Zp) (xs ys : Array Value) (S : Addr) (h0 h : Heap) : Prop := ∃ (acc : Array Value) (c : Nat) (Ts : List Addr), h.get? S = some (liO acc c) ∧ acc.toList = Ts.map Value.ref ∧ Ts.length = min xs.size ys.size ∧ (ZOut xs ys S h Ts ∧ Ts.Pairwise (· < ·)) ∧
  ∀ b o, b ≠ S → b ≠ D.z → b ≠ D.TO → b ≠ D.i1 → b ≠ D.i2 → h0.get? b = some o → h.get? b = some o
theorem zip_loop {R : Result → Shared → Prop} (ap : D.ap) (L : D.Lt S) (nh : A.handled = none) (few : min xs.size ys.size ≤ sizeLine) (res : Value) {h0 : Heap} (fin : ∀ h, ZEnd D xs ys S h0 h → R (.ok (.ret res)) { s with heap := h }) :
    ∀ (k i : Nat) (h : Heap) (c : Nat) (acc : Array Value) (Ts : List Addr), k + i = min xs.size ys.size → ZSt D xs ys S i h → h.get? S = some (liO acc c) → acc.toList = Ts.map Value.ref → Ts.length = i → ZOut xs ys S h Ts → Ts.Pairwise (· < ·) →
      (∀ b o, b ≠ S → b ≠ D.z → b ≠ D.TO → b ≠ D.i1 → b ≠ D.i2 → h0.get? b = some o → h.get? b = some o) →
      codeAny (model P w) A (.builtin "list.extend.loop" ⟨[.ref S, .ref D.z, res], []⟩) R { s with heap := h } := by
  have nS : ∀ {c : Addr}, S ≤ c → c ≠ D.z ∧ c ≠ D.TO ∧ c ≠ D.i1 ∧ c ≠ D.i2 := fun q => ⟨Nat.ne_of_gt (Nat.lt_of_lt_of_le L.z q), Nat.ne_of_gt (Nat.lt_of_lt_of_le L.TO q), Nat.ne_of_gt (Nat.lt_of_lt_of_le L.i1 q), Nat.ne_of_gt (Nat.lt_of_lt_of_le L.i2 q)⟩
  have up : ∀ {h h' : Heap}, Zkeep D h h' → ∀ (c : Addr) (o : Obj), S ≤ c → h.get? c = some o → h'.get? c = some o := fun k c o q e => k c o (nS q).1 (nS q).2.1 (nS q).2.2.1 (nS q).2.2.2 e
  intro k
  induction k with
  | zero =>
    intro i h c acc Ts hk st hS ha hl hz pw keep
    refine codeAny_builtin PySem.F.entry_extend_loop (by
      rw [Around.under_plainId PySem.F.plain_extend_loop _]
      show wpAny _ A.in1 (pyNext (.ref D.z) >>= _) _ _ _
      refine wpAny_bind (zst_done (s := { s with heap := h }) (A := A.in1) ap nh st ?_ fun h' q => ?_)
      · rcases Nat.le_total xs.size ys.size with g | g
        · exact .inl (Array.getElem?_eq_none (by omega))
        · exact .inr (Array.getElem?_eq_none (by omega))
      · refine wpAny_pure (fin h' ⟨acc, c, Ts, up q S _ (Nat.le_refl _) hS, ha, by omega, ⟨fun j T hj => ?_, pw⟩, fun b o b0 b1 b2 b3 b4 e => q b o b1 b2 b3 b4 (keep b o b0 b1 b2 b3 b4 e)⟩)
        obtain ⟨t1, x, y, t2, t3, t4⟩ := hz j T hj
        exact ⟨t1, x, y, t2, t3, up q T _ (Nat.le_of_lt t1) t4⟩)
  | succ k ih =>
    intro i h c acc Ts hk st hS ha hl hz pw keep
    have hsz : acc.size = i := by rw [← Array.length_toList, ha, List.length_map, hl]
    have hx : i < xs.size := by omega
    have hy : i < ys.size := by omega
    refine codeAny_builtin PySem.F.entry_extend_loop (by
      rw [Around.under_plainId PySem.F.plain_extend_loop _]
      show wpAny _ A.in1 (pyNext (.ref D.z) >>= _) _ _ _
      refine wpAny_bind (zst_item (s := { s with heap := h }) ap L st (Array.getElem?_eq_getElem hx) (Array.getElem?_eq_getElem hy) (Heap.lt_size hS) fun h' st' hp q => ?_)
      have gS := up q S _ (Nat.le_refl _) hS
      have lS : S < h.objs.size := Heap.lt_size hS
      show wpAny _ A.in1 (updateSeq S (·.push (Value.ref h.objs.size)) >>= _) _ _ _
      refine wpAny_bind (wpAny_updateSeq gS rfl (wpAny_pure ⟨plainId_quiet PySem.F.plain_extend_loop _, ?_⟩) (by omega) (by show (acc.push (Value.ref h.objs.size)).size ≤ sizeLine + 1; rw [Array.size_push]; omega))
      have u : ∀ b o, b ≠ S → h'.get? b = some o → (h'.update S (Obj.mapSeq (·.push (Value.ref h.objs.size)))).get? b = some o := fun b o n e => (Heap.get?_update_other _ _ (Ne.symm n)).trans e
      refine ih (i + 1) _ _ (acc.push (Value.ref h.objs.size)) (Ts ++ [h.objs.size]) (by omega) (st'.frame L u) (Heap.get?_update_self _ gS rfl) (by rw [Array.toList_push, ha, List.map_append]; rfl) (by simp [hl]) (fun j T hj => ?_) (List.pairwise_append.mpr ⟨pw, List.pairwise_singleton _ _, fun T hT T' hT' => ?_⟩) fun b o b0 b1 b2 b3 b4 e => u b o b0 (q b o b1 b2 b3 b4 (keep b o b0 b1 b2 b3 b4 e))
      by_cases g : j < Ts.length
      · rw [List.getElem?_append_left g] at hj
        obtain ⟨t1, x, y, t2, t3, t4⟩ := hz j T hj
        exact ⟨t1, x, y, t2, t3, u T _ (Nat.ne_of_gt t1) (up q T _ (Nat.le_of_lt t1) t4)⟩
      · have ej : j = Ts.length := by
          have := (List.getElem?_eq_some_iff.mp hj).1
          rw [List.length_append, List.length_singleton] at this
          omega
        subst ej
        have eT : h.objs.size = T := by simpa using hj
        subst eT
        exact ⟨lS, _, _, by rw [hl]; exact Array.getElem?_eq_getElem hx, by rw [hl]; exact Array.getElem?_eq_getElem hy, u _ _ (Nat.ne_of_gt lS) hp⟩
      · rw [List.mem_singleton.mp hT']
        obtain ⟨j, hj⟩ := List.mem_iff_getElem?.mp hT
        obtain ⟨_, _, _, _, _, t4⟩ := hz j T hj
        exact Heap.lt_size t4)
theorem zip_no_len : typeLookup (.type "zip") "__len__" = pure none := by rw [typeLookup_type, builtinLookup_eq_fast]; kernel_rfl
theorem zip_no_hint : typeLookup (.type "zip") "__length_hint__" = pure none := by rw [typeLookup_type, builtinLookup_eq_fast]; kernel_rfl
abbrev Zfresh (D : Zp) (xs ys : Array Value) (h : Heap) : Prop := IsPair h D.TI (.ref D.i1) (.ref D.i2) ∧ h.IsListIter D.i1 D.l1 0 ∧ h.IsListIter D.i2 D.l2 0 ∧ h.IsList D.l1 xs ∧ h.IsList D.l2 ys ∧ IsZip h D.z D.TI D.TO .none ∧ ∃ a b, IsPair h D.TO a b
theorem Zfresh.st {h h' : Heap} (f : Zfresh D xs ys h) (L : D.Lt S) (k : ∀ b o, b ≠ S → h.get? b = some o → h'.get? b = some o) : ZSt D xs ys S 0 h' :=
  let ⟨f1, f2, f3, f4, f5, f6, a, b, f7⟩ := f
  ZSt.frame L (h := h) ⟨f1, f2, f3, f4, f5, .inl ⟨f6, a, b, f7⟩⟩ k
theorem zip_init {R : Result → Shared → Prop} (ap : D.ap) (L : D.Lt S) (nh : A.handled = none) (few : min xs.size ys.size ≤ sizeLine) (f : Zfresh D xs ys s.heap) (hS : s.heap.get? S = some (liO #[] 0)) (fin : ∀ h, ZEnd D xs ys S s.heap h → R (.ok (.ret .none)) { s with heap := h }) :
    wpAny (model P w) A.in1 (Builtin.«list.__init__» ⟨[.ref S, .ref D.z], []⟩) (fun r s' => match r with | .done f => R (.ok f) s' | .again c => c.quiet = true ∧ codeAny (model P w) A c R s') (fun e s' => R (.error e) s') s := by
  show wpAny _ A.in1 (do let old ← Builtin.List.listItems (.ref S); Builtin.List.listUpdate (.ref S) (fun _ => #[]); letGo old.toList.reverse; Builtin.List.listExtendWith (.ref S) (.ref D.z) .none) _ _ s
  unfold Builtin.List.listItems
  refine wpAny_bind (wpAny_bind (wpAny_seqItems hS rfl (wpAny_pure ?_)))
  show wpAny _ A.in1 (updateSeq S (fun _ => #[]) >>= fun _ => letGo (#[] : Array Value).toList.reverse >>= fun _ => Builtin.List.listExtendWith (.ref S) (.ref D.z) .none) _ _ s
  refine wpAny_bind (wpAny_updateSeq hS rfl (wpAny_bind (wpAny_letGo ?_)))
  have g2 := Heap.get?_update_self (Obj.mapSeq (fun _ => (#[] : Array Value))) hS rfl
  have k2 : ∀ b o, b ≠ S → s.heap.get? b = some o → (s.heap.update S (Obj.mapSeq (fun _ => (#[] : Array Value)))).get? b = some o := fun b o n e => (Heap.get?_update_other _ _ (Ne.symm n)).trans e
  generalize s.heap.update S (Obj.mapSeq (fun _ => (#[] : Array Value))) = h2 at g2 k2
  have st2 := f.st L k2
  have hz2 : IsZip h2 D.z D.TI D.TO .none := k2 _ _ (Nat.ne_of_lt L.z) f.2.2.2.2.2.1
  have ty : Shared.TypeIs { s with heap := h2 } (.ref D.z) "zip" := ⟨_, hz2, rfl⟩
  unfold Builtin.List.listExtendWith
  refine wpAny_bind (wpAny_typeOf ty ?_)
  have e1 : Builtin.List.listSameRef (.ref S) (.ref D.z) = false := by
    have : S ≠ D.z := Nat.ne_of_gt L.z
    simp [Builtin.List.listSameRef, this]
  have e2 : (Value.type "zip" == Value.type "list") = false := by decide
  have e3 : (Value.type "zip" == Value.type "tuple") = false := by decide
  simp only [e1, e2, e3, Bool.or_false, Bool.false_eq_true, if_false]
  refine wpAny_bind (wpAny_pyIter_zip hz2 (wpAny_bind (wpAny_holding ?_)))
  unfold Builtin.List.listLengthHint
  refine wpAny_bind (wpAny_specialOf ty zip_no_len ?_)
  show wpAny _ A.in1 (specialOf (Value.ref D.z) (Str.ofString "__length_hint__") >>= _) _ _ _
  refine wpAny_bind (wpAny_specialOf ty zip_no_hint (wpAny_pure ?_))
  show wpAny _ A.in1 (rule "list.extend.makes-room" >>= fun _ => Builtin.List.listTouch (.ref S) >>= fun _ => again (.builtin "list.extend.loop" ⟨[.ref S, .ref D.z, .none], []⟩)) _ _ _
  refine wpAny_bind (wpAny_rule (wpAny_bind ?_))
  show wpAny _ A.in1 (updateSeq S (·.push .none) >>= fun _ => updateSeq S (·.pop)) _ _ _
  refine wpAny_bind (wpAny_updateSeq g2 rfl ?_)
  have g3 := Heap.get?_update_self (Obj.mapSeq (·.push Value.none)) g2 rfl
  refine wpAny_updateSeq (hz := by seq_fits) g3 rfl ?_
  have g4 := Heap.get?_update_self (Obj.mapSeq (·.pop)) g3 rfl
  have k4 : ∀ b o, b ≠ S → h2.get? b = some o → ((h2.update S (Obj.mapSeq (·.push Value.none))).update S (Obj.mapSeq (·.pop))).get? b = some o := fun b o n e => (Heap.get?_update_other _ _ (Ne.symm n)).trans ((Heap.get?_update_other _ _ (Ne.symm n)).trans e)
  refine wpAny_pure ⟨plainId_quiet PySem.F.plain_extend_loop _, zip_loop (s := s) (h0 := s.heap) ap L nh few .none (fun h q => fin h q) _ 0 _ _ #[] [] (Nat.add_zero _) (st2.frame L k4) g4 rfl rfl (fun j T hj => by simp at hj) List.Pairwise.nil fun b o b0 _ _ _ _ e => k4 b o b0 (k2 b o b0 e)⟩
end
section
variable {P : Program} {w : World} {A : Around} {E : Value → Shared → Prop} {s : Shared} {D : Zp} {xs ys : Array Value}
theorem call_list_zip {Q : Value → Shared → Prop} (ap : D.ap) (L : D.Lt s.heap.objs.size) (nh : A.handled = none) (few : min xs.size ys.size ≤ sizeLine) (f : Zfresh D xs ys s.heap) (fin : ∀ h, ZEnd D xs ys s.heap.objs.size s.heap h → Q (.ref s.heap.objs.size) { s with heap := h }) :
    wpAny (model P w) A (call (.type "list") [.ref D.z]) Q E s := by
  refine callType_codes (Q₁ := fun v s1 => v = .ref s.heap.objs.size ∧ s1 = { s with heap := s.heap.push { cls := .type "list", data := .seq #[] } }) PySem.F.called_list (PySem.F.typeCall_list_1 _) PySem.F.entry_list_init (code_list_new _ ⟨rfl, rfl⟩) fun v s1 q => ?_
  obtain ⟨rfl, rfl⟩ := q
  have g : (s.heap.push { cls := .type "list", data := .seq #[] }).get? s.heap.objs.size = some (liO #[] 0) := Heap.get?_push_size _ rfl
  have k : ∀ b o, s.heap.get? b = some o → (s.heap.push { cls := .type "list", data := .seq #[] }).get? b = some o := fun b o e => Heap.get?_push_of_some _ e
  obtain ⟨f1, f2, f3, f4, f5, f6, a, b, f7⟩ := f
  refine ⟨⟨_, g, rfl⟩, PySem.F.args_list_init_2 _ _, zip_init ap L nh few ⟨k _ _ f1, f2.at (k _), f3.at (k _), f4.at (k _), f5.at (k _), k _ _ f6, a, b, k _ _ f7⟩ g fun h q => ⟨rfl, ?_⟩⟩
  obtain ⟨acc, c, Ts, q1, q2, q3, q4, q5⟩ := q
  exact fin h ⟨acc, c, Ts, q1, q2, q3, q4, fun b o b0 b1 b2 b3 b4 e => q5 b o b0 b1 b2 b3 b4 (k b o e)⟩
end
end BD
/-! sorted(set(xs)), len(set(xs)), list(zip(xs, ys)) -/
namespace BD
open PySem PySem.Spec PyProof.Rows L2
/-! ### a list's members, ascending -/
def insU (x : Int) : List Int → List Int
  | [] => [x]
  | y :: r => if x < y then x :: y :: r else if x = y then y :: r else y :: insU x r
def ssI : List Int → List Int
  | [] => []
  | x :: r => insU x (ssI r)
theorem insU_mem (x k : Int) : ∀ l : List Int, k ∈ insU x l ↔ k = x ∨ k ∈ l
  | [] => by simp [insU]
  | y :: r => by
    unfold insU
    split
    · simp
    · split
      · rename_i h
        subst h
        simp
      · rw [List.mem_cons, insU_mem x k r, List.mem_cons]
        constructor
        · rintro (h | h | h)
          · exact .inr (.inl h)
          · exact .inl h
          · exact .inr (.inr h)
        · rintro (h | h | h)
          · exact .inr (.inl h)
          · exact .inl h
          · exact .inr (.inr h)
theorem insU_lt (x : Int) : ∀ l : List Int, l.Pairwise (· < ·) → (insU x l).Pairwise (· < ·)
  | [], _ => by simp [insU]
  | y :: r, h => by
    have h' := List.pairwise_cons.mp h
    unfold insU
    split
    · rename_i q
      refine List.pairwise_cons.mpr ⟨fun z hz => ?_, h⟩
      rcases List.mem_cons.mp hz with e | e
      · omega
      · have := h'.1 z e; omega
    · split
      · exact h
      · refine List.pairwise_cons.mpr ⟨fun z hz => ?_, insU_lt x r h'.2⟩
        rcases (insU_mem x z r).mp hz with e | e
        · omega
        · exact h'.1 z e
theorem ssI_mem (k : Int) : ∀ l : List Int, k ∈ ssI l ↔ k ∈ l
  | [] => by simp [ssI]
  | x :: r => by rw [ssI, insU_mem, ssI_mem k r, List.mem_cons]
theorem ssI_lt : ∀ l : List Int, (ssI l).Pairwise (· < ·)
  | [] => List.Pairwise.nil
  | x :: r => insU_lt x _ (ssI_lt r)
theorem lt_unique : ∀ {a b : List Int}, a.Pairwise (· < ·) → b.Pairwise (· < ·) → (∀ k, k ∈ a ↔ k ∈ b) → a = b
  | [], [], _, _, _ => rfl
  | [], y :: _, _, _, h => absurd ((h y).mpr List.mem_cons_self) (by simp)
  | x :: _, [], _, _, h => absurd ((h x).mp List.mem_cons_self) (by simp)
  | x :: a, y :: b, ha, hb, h => by
    have ha' := List.pairwise_cons.mp ha
    have hb' := List.pairwise_cons.mp hb
    have e : x = y := by
      rcases List.mem_cons.mp ((h x).mp List.mem_cons_self) with q | q
      · exact q
      · rcases List.mem_cons.mp ((h y).mpr List.mem_cons_self) with q2 | q2
        · exact q2.symm
        · have := ha'.1 y q2; have := hb'.1 x q; omega
    subst e
    rw [lt_unique ha'.2 hb'.2 fun k => ?_]
    constructor
    · intro q
      rcases List.mem_cons.mp ((h k).mp (List.mem_cons_of_mem _ q)) with e | e
      · subst e; have := ha'.1 k q; omega
      · exact e
    · intro q
      rcases List.mem_cons.mp ((h k).mpr (List.mem_cons_of_mem _ q)) with e | e
      · subst e; have := hb'.1 k q; omega
      · exact e
theorem insU_len (x : Int) : ∀ l : List Int, (insU x l).length ≤ l.length + 1
  | [] => by simp [insU]
  | y :: r => by
    have := insU_len x r
    unfold insU
    split
    · simp
    · split
      · simp
      · simp; omega
theorem ssI_len : ∀ l : List Int, (ssI l).length ≤ l.length
  | [] => Nat.le_refl _
  | x :: r => by
    have := ssI_len r
    have := insU_len x (ssI r)
    rw [ssI, List.length_cons]
    omega
section
variable {X : Cx} {e e2 : Expr} {ta : TA} {p p2 q pos : Pos}
def rSS (K : PySem.W.Frag) : List V → Hp → VK → Prop := fun vs H Q => ∃ (a : Addr) (ns : List Int), vs = [V.ref a] ∧ SqA K H a (ns.map V.int) ∧ ns.length < 64 ∧ ∀ r, H r = none → Q (.ref r) (upd H r (.lst ((ssI ns).map V.int)))
def rLS (K : PySem.W.Frag) : List V → Hp → VK → Prop := fun vs H Q => ∃ (a : Addr) (ns : List Int), vs = [V.ref a] ∧ SqA K H a (ns.map V.int) ∧ ns.length ≤ 1000 ∧ Q (.int ((ssI ns).length : Nat)) H
/-- set(e): the set made is nobody's but ours -/
theorem set_made {pins : List (Addr × Obj)} {s : Shared} {σ : L2.St} {H : Hp} {a : Addr} {ns : List Int} {Q : Value → Shared → Prop} (hc : X.calm = true) (I : Inv X pins σ H s) (hs : SqA X.K H a (ns.map V.int)) (few : ns.length ≤ 1000)
    (go : ∀ (h' : Heap) (tk n : Nat), SetR X.w h' s.heap.objs.size (fun j => decide (j ∈ ns)) n → n ≤ ns.length → Inv X pins σ H { s with heap := h', toks := tk } → Q (.ref s.heap.objs.size) { s with heap := h', toks := tk }) :
    wpAny (model X.prog X.w) X.A (call (.type "set") [.ref a]) Q X.xe s := by
  rcases hs with hs | hs
  · obtain ⟨its, rv, pl, hz⟩ := I.list hs
    refine call_set_li ns (I.ok.hd hc) pl.isList (by simpa using rv.ints) (by unfold scanBound; omega) fun s2 q => ?_
    obtain ⟨h', tk, n, rfl, ⟨R, hn⟩, k⟩ := q
    exact go h' tk n R hn (I.kept k)
  · obtain ⟨its, rv, pl, hz⟩ := I.tuple hs
    refine call_set_tupI ns (I.ok.hd hc) (show s.heap.IsTuple a its.toArray from pl) (by simpa using rv.ints) (by unfold scanBound; omega) fun h' tk n R hn k => go h' tk n R hn (I.kept k)
theorem setR_len {w : World} {h : Heap} {a : Addr} {ns : List Int} {n : Nat} (R : SetR w h a (fun j => decide (j ∈ ns)) n) : n = (ssI ns).length := by
  obtain ⟨o, es, ep, t, _, _, _, _, nd, hm, _, _, hn, _, _⟩ := R
  have : (es.toList.map keyOf).Perm (ssI ns) := (List.perm_ext_iff_of_nodup nd ((ssI_lt ns).imp fun q => by omega)).mpr fun k => by
    rw [ssI_mem, ← hm k, decide_eq_true_eq]
  have e := this.length_eq
  rw [List.length_map, Array.length_toList] at e
  omega
theorem pe_sset (hc : X.calm = true) (hg : Gl X "sorted") (hm : X.mg "sorted" = none) (hg2 : Gl X "set") (hm2 : X.mg "set" = none) (ha : PA X [e] ta) (hs : starEach [e] X.env = [(false, eval e X.env)] := by rfl) :
    PE X (.Call (.Name "sorted" p) [.Call (.Name "set" p2) [e] [] q] [] pos) (fun σ H Q => ta σ H fun vs H1 => rSS X.K vs H1 Q) := by
  refine ⟨fun pins s σ H Q I h => ?_⟩
  refine Call_ (ld_blt I hg hm PyProof.Rows.boot_sorted (PyProof.Rows.callWith_builtin1 (PyProof.Rows.args_cons ?_ rfl) rfl rfl))
  refine Call_ (ld_blt I hg2 hm2 PyProof.Rows.boot_set (PyProof.Rows.callWith_type1 (thn (ha.run q pins s σ H _ I h) fun us s1 ⟨vs, H1, I1, r1, q1⟩ => ?_) hs rfl))
  obtain ⟨a, ns, rfl, hq, few, fin⟩ := q1
  rw [Vals.ref1 r1]
  refine set_made hc I1 hq (by omega) fun h' tk n R hn I2 => PyProof.Rows.args_nil ?_
  refine sorted_set R (I2.ok.hd hc) (by omega) fun s' r out c ks k g o hr hg hi hs hm hl => ?_
  have ek : ks = ssI ns := lt_unique hs (ssI_lt ns) fun j => by rw [hm, ssI_mem, decide_eq_true_eq]
  subst ek
  have hlen : ((ssI ns).map V.int).length ≤ sizeLine := by rw [List.length_map, sizeLine_eq]; have := ssI_len ns; omega
  have nr : H1 r = none := I2.hok.fresh hr
  obtain ⟨h2, g2, d2, t2, o2⟩ := s'
  cases o
  exact ⟨.ref r, upd H1 r (.lst ((ssI ns).map V.int)), Inv.call (s := { s1 with heap := h', toks := tk }) I2 (ch := []) (t' := t2) (d' := d2) (g' := g2) (Un.laid k hr nr) (I2.hok.laid k hr ⟨hlen, out.toList, c, vals_of_ints hi, hg⟩) (by have g : g2 = s1.gens := g; rw [g]; exact I2.bare) (fun _ z => nomatch z), rfl, fin r nr⟩
theorem pe_lset (hc : X.calm = true) (hg : Gl X "len") (hm : X.mg "len" = none) (hg2 : Gl X "set") (hm2 : X.mg "set" = none) (ha : PA X [e] ta) (hs : starEach [e] X.env = [(false, eval e X.env)] := by rfl) :
    PE X (.Call (.Name "len" p) [.Call (.Name "set" p2) [e] [] q] [] pos) (fun σ H Q => ta σ H fun vs H1 => rLS X.K vs H1 Q) := by
  refine ⟨fun pins s σ H Q I h => ?_⟩
  refine Call_ (ld_blt I hg hm PySem.boot_len (PyProof.Rows.callWith_builtin1 (PyProof.Rows.args_cons ?_ rfl) rfl rfl))
  refine Call_ (ld_blt I hg2 hm2 PyProof.Rows.boot_set (PyProof.Rows.callWith_type1 (thn (ha.run q pins s σ H _ I h) fun us s1 ⟨vs, H1, I1, r1, q1⟩ => ?_) hs rfl))
  obtain ⟨a, ns, rfl, hq, few, fin⟩ := q1
  rw [Vals.ref1 r1]
  refine set_made hc I1 hq few fun h' tk n R hn I2 => PyProof.Rows.args_nil ?_
  have en := setR_len R
  obtain ⟨o, es, ep, t, ho, hex, hd, _, _, _, _, hf, hz, _, _⟩ := R
  have le := ssI_len ns
  refine call_len_set (s := { s1 with heap := h', toks := tk }) ho hex hd hf (by omega) ⟨.int ((ssI ns).length : Nat), H1, I2.tok _, ⟨_, by rw [hz, en]⟩, fin⟩
end
section
variable {K : PySem.W.Frag}
def ssL (xs : List PyData) : Option (List PyData) := match asIs xs with
  | some ns => if ns.length < 64 then some ((ssI ns).map .int) else none
  | none => none
def ssF : List PyData → Option (List PyData)
  | [.list xs] => ssL xs
  | [.tuple xs] => ssL xs
  | _ => none
def lsL (xs : List PyData) : Option PyData := match asIs xs with
  | some ns => if ns.length ≤ 1000 then some (.int ((ssI ns).length : Nat)) else none
  | none => none
def lsD : List PyData → Option PyData
  | [.list xs] => lsL xs
  | [.tuple xs] => lsL xs
  | _ => none
theorem ssL_of {xs es : List PyData} (h : ssL xs = some es) : ∃ ns : List Int, xs = ns.map .int ∧ ns.length < 64 ∧ es = (ssI ns).map .int := by
  unfold ssL at h
  split at h
  · split at h
    · cases h; exact ⟨_, asIs_of (by assumption), by assumption, rfl⟩
    · cases h
  · cases h
theorem lsL_of {xs : List PyData} {d : PyData} (h : lsL xs = some d) : ∃ ns : List Int, xs = ns.map .int ∧ ns.length ≤ 1000 ∧ d = .int ((ssI ns).length : Nat) := by
  unfold lsL at h
  split at h
  · split at h
    · cases h; exact ⟨_, asIs_of (by assumption), by assumption, rfl⟩
    · cases h
  · cases h
theorem rpa_of_ints {S : Addr → Prop} {H : Hp} : ∀ ns : List Int, RpA K S H (ns.map V.int) (ns.map .int)
  | [] => .nil
  | n :: r => .cons (.int n) (rpa_of_ints r)
theorem opF_ss : OpF K (rSS K) ssF := by
  intro S H xs ds es Q r e q
  unfold ssF at e
  split at e
  · obtain ⟨ns, rfl, few, rfl⟩ := ssL_of e
    obtain ⟨v, rfl, r1⟩ := rpa1 r
    cases r1 with
    | lst h t =>
      have := rpa_ints t
      subst this
      exact ⟨_, ns, rfl, .inl h.sq, few, fun p np => q p _ np (rpa_of_ints _)⟩
  · obtain ⟨ns, rfl, few, rfl⟩ := ssL_of e
    obtain ⟨v, rfl, r1⟩ := rpa1 r
    cases r1 with
    | tup h t =>
      have := rpa_ints t
      subst this
      exact ⟨_, ns, rfl, .inr h, few, fun p np => q p _ np (rpa_of_ints _)⟩
  · cases e
theorem opN_ls : OpN K (rLS K) lsD := by
  intro S H xs ds d Q r e q
  unfold lsD at e
  split at e
  · obtain ⟨ns, rfl, few, rfl⟩ := lsL_of e
    obtain ⟨v, rfl, r1⟩ := rpa1 r
    cases r1 with
    | lst h t =>
      have := rpa_ints t
      subst this
      exact ⟨_, ns, rfl, .inl h.sq, few, q _ H (Ext.refl H) (.int _)⟩
  · obtain ⟨ns, rfl, few, rfl⟩ := lsL_of e
    obtain ⟨v, rfl, r1⟩ := rpa1 r
    cases r1 with
    | tup h t =>
      have := rpa_ints t
      subst this
      exact ⟨_, ns, rfl, .inr h, few, q _ H (Ext.refl H) (.int _)⟩
  · cases e
end
section
variable {X : Cx} {wx : WXs} {M W U : List Nat} {e : Expr} {evs : Env → R (List PyData)} {p p2 q pos : Pos}
theorem pfd_sset (hc : X.calm = true) (hm : X.mg "sorted" = none) (hm2 : X.mg "set" = none) (ha : PAD X wx M W U [e] evs) (hW : W.isEmpty = true := by rfl) (hU : sb U M = true := by rfl) (hg : Gl X "sorted" := by rfl) (hg2 : Gl X "set" := by rfl) (hs : starEach [e] X.env = [(false, eval e X.env)] := by rfl) :
    PFD X wx M U (.Call (.Name "sorted" p) [.Call (.Name "set" p2) [e] [] q] [] pos) (eAppF ssF evs) := pe_imp (pe_sset hc hg hm hg2 hm2 ha hs) fun σ H Q h => tD_appF opF_ss hW hU h
theorem pd_lset (hc : X.calm = true) (hm : X.mg "len" = none) (hm2 : X.mg "set" = none) (ha : PAD X wx M W U [e] evs) (hg : Gl X "len" := by rfl) (hg2 : Gl X "set" := by rfl) (hs : starEach [e] X.env = [(false, eval e X.env)] := by rfl) :
    PD X wx M W U (.Call (.Name "len" p) [.Call (.Name "set" p2) [e] [] q] [] pos) (eApp lsD evs) := pe_imp (pe_lset hc hg hm hg2 hm2 ha hs) fun σ H Q h => tD_app opN_ls h
end
end BD
/-! list(zip(xs, ys)): several new objects at once -/
namespace BD
open PySem PySem.Spec PyProof.Rows L2
section
variable {P : Program} {w : World} {H H' : Hp} {h h' : Heap} {fs ex : List Addr}
theorem hok_more (x : HOk P w H h) (k : ∀ b u, h.get? b = some u → h'.get? b = some u) (e : Ext H H') (new : ∀ b u, H' b = some u → H b = none → ObjOk P w H' h' b u) : HOk P w H' h' := fun b u q => by
  cases g : H b with
  | none => exact new b u q g
  | some v =>
    have := e b v g
    rw [q] at this
    cases this
    exact (x b u g).stay (fun c v _ q => k c v q) (fun c q => e c _ q) fun c xs q => e c _ q
theorem un_more (k : ∀ b u, h.get? b = some u → h'.get? b = some u) (e : Ext H H') (fr : ∀ b, b < h.objs.size → H b = none → H' b = none) : Un fs ex H H' h h' where
  keep := fun b u q _ _ _ => k b u q
  slot := fun b u q _ _ _ => ⟨u.slots, k b u q⟩
  free := fun b u q n _ => fr b (Heap.lt_size q) n
  there := fun b u q _ => ⟨u, k b u q⟩
  tups := fun b xs q => e _ _ q
  frzs := fun b u xs q => e _ _ q
  tbls := fun b ps q => ⟨#[], by rw [e _ _ q]; simp⟩
end
/-- the heap with these pairs -/
def HT (H : Hp) : List Addr → List V → List V → Hp
  | T :: Ts, x :: xs, y :: ys => upd (HT H Ts xs ys) T (.tup [x, y])
  | _, _, _ => H
theorem HT_ext {H : Hp} : ∀ {Ts : List Addr} {xs ys : List V}, (∀ T ∈ Ts, H T = none) → Ext H (HT H Ts xs ys)
  | T :: Ts, x :: xs, y :: ys, h => fun b u e => by
    have : b ≠ T := ne_of_none e (h T List.mem_cons_self)
    rw [HT, upd_ne this]
    exact HT_ext (fun T hT => h T (List.mem_cons_of_mem _ hT)) b u e
  | [], _, _, _ => Ext.refl _
  | _ :: _, [], _, _ => Ext.refl _
  | _ :: _, _ :: _, [], _ => Ext.refl _
theorem HT_no {H : Hp} {b : Addr} : ∀ {Ts : List Addr} {xs ys : List V}, b ∉ Ts → HT H Ts xs ys b = H b
  | T :: Ts, x :: xs, y :: ys, h => by
    rw [List.mem_cons, not_or] at h
    rw [HT, upd_ne h.1]
    exact HT_no h.2
  | [], _, _, _ => rfl
  | _ :: _, [], _, _ => rfl
  | _ :: _, _ :: _, [], _ => rfl
theorem HT_at {H : Hp} : ∀ {Ts : List Addr} {xs ys : List V} {b : Addr} {u : HO}, HT H Ts xs ys b = some u → H b = none → ∃ (j : Nat) (x y : V), Ts[j]? = some b ∧ xs[j]? = some x ∧ ys[j]? = some y ∧ u = .tup [x, y]
  | T :: Ts, x :: xs, y :: ys, b, u, e, n => by
    rw [HT] at e
    by_cases c : b = T
    · subst c
      rw [upd_same] at e
      cases e
      exact ⟨0, x, y, rfl, rfl, rfl, rfl⟩
    · rw [upd_ne c] at e
      obtain ⟨j, x', y', h1, h2, h3, h4⟩ := HT_at e n
      exact ⟨j + 1, x', y', h1, h2, h3, h4⟩
  | [], _, _, b, u, e, n => by rw [show HT H [] _ _ b = H b by cases ‹List V› <;> rfl, n] at e; cases e
  | _ :: _, [], _, b, u, e, n => by rw [show HT H _ [] _ b = H b from rfl, n] at e; cases e
  | _ :: _, _ :: _, [], b, u, e, n => by rw [show HT H _ _ [] b = H b from rfl, n] at e; cases e
theorem HT_rp {K : PySem.W.Frag} {S : Addr → Prop} {H : Hp} : ∀ {Ts : List Addr} {xs ys : List V} {dx dy : List PyData}, Ts.length = min xs.length ys.length → Ts.Pairwise (· < ·) → (∀ T ∈ Ts, H T = none) → RpA K S H xs dx → RpA K S H ys dy → RpA K S (HT H Ts xs ys) (Ts.map V.ref) (zipL dx dy)
  | T :: Ts, x :: xs, y :: ys, _, _, hl, pw, hn, .cons rx rxs, .cons ry rys => by
    have pw' := List.pairwise_cons.mp pw
    have n' : ∀ T ∈ Ts, H T = none := fun T hT => hn T (List.mem_cons_of_mem _ hT)
    have ih := HT_rp (Ts := Ts) (by simp only [List.length_cons] at hl; omega) pw'.2 n' rxs rys
    have nT : HT H Ts xs ys T = none := by
      rw [HT_no fun h => absurd (pw'.1 T h) (Nat.lt_irrefl _)]
      exact hn T List.mem_cons_self
    have ex : Ext H (HT H (T :: Ts) (x :: xs) (y :: ys)) := HT_ext hn
    exact .cons (.tup (.inl (.inl upd_same)) (.cons (rx.ext (fun _ h => h) ex) (.cons (ry.ext (fun _ h => h) ex) .nil))) (ih.ext (fun _ h => h) (Ext.upd nT))
  | [], [], _, _, _, _, _, _, .nil, _ => .nil
  | [], _ :: _, [], _, _, _, _, _, .cons _ _, .nil => .nil
  | T :: Ts, [], _, _, _, hl, _, _, _, _ => by simp at hl
  | T :: Ts, _ :: _, [], _, _, hl, _, _, _, _ => by simp at hl
  | [], _ :: _, _ :: _, _, _, hl, _, _, _, _ => by simp at hl
theorem nA {b n : Nat} (k : Nat) (h : b < n) : b ≠ n + k := by omega
theorem nB {b n m : Nat} {k : Nat} (h : b < n) (e : m = n + k) : b ≠ m := by omega
theorem nC {n k m : Nat} (h : k < m) : n + k < n + m := by omega
theorem nD {a n : Nat} (k : Nat) (h : a < n) : a < n + k := by omega
theorem nE {T n : Nat} {k : Nat} (h : n + k < T) : n ≤ T := by omega
theorem nF {T n m : Nat} (h : n + 5 < T) (e : m = n + 5) : T ≠ m := by omega
theorem nG {n m : Nat} (e : m = n + 5) : n ≤ m := by omega
theorem nH {b n : Nat} {k : Nat} (h : b < n) (h2 : n + k < b) : False := by omega
section
variable {X : Cx} {e e2 : Expr} {ta : TA} {p p2 q pos : Pos}
def rZL (K : PySem.W.Frag) : List V → Hp → VK → Prop := fun vs H Q => ∃ (a b : Addr) (xs ys : List V), vs = [V.ref a, V.ref b] ∧ SqL K H a xs ∧ SqL K H b ys ∧ min xs.length ys.length ≤ 16777216 ∧
  ∀ (Ts : List Addr) (r : Addr), Ts.length = min xs.length ys.length → Ts.Pairwise (· < ·) → (∀ T ∈ Ts, H T = none) → HT H Ts xs ys r = none → Q (.ref r) (upd (HT H Ts xs ys) r (.lst (Ts.map V.ref)))
theorem vals_at {xs : List V} {us : List Value} (r : Vals xs us) {j : Nat} {x : V} {u : Value} (hx : xs[j]? = some x) (hu : us[j]? = some u) : RelV x u := by
  obtain ⟨u', h1, h2⟩ := r.get hx
  rw [hu] at h1
  cases h1
  exact h2
theorem vals_refs : ∀ Ts : List Addr, Vals (Ts.map V.ref) (Ts.map Value.ref)
  | [] => .nil
  | T :: Ts => .cons (show RelV (.ref T) (.ref T) from rfl) (vals_refs Ts)
theorem pe_listZip (hc : X.calm = true) (hg : Gl X "list") (hm : X.mg "list" = none) (hg2 : Gl X "zip") (hm2 : X.mg "zip" = none) (ha : PA X [e, e2] ta)
    (hs : starEach [e, e2] X.env = (false, eval e X.env) :: starEach [e2] X.env := by rfl) (hpl : (backTo q (starEach [e2] X.env)).any (·.1) = false := by rfl) :
    PE X (.Call (.Name "list" p) [.Call (.Name "zip" p2) [e, e2] [] q] [] pos) (fun σ H Q => ta σ H fun vs H1 => rZL X.K vs H1 Q) := by
  refine ⟨fun pins s σ H Q I h => ?_⟩
  refine Call_ (ld_blt I hg hm PyProof.Rows.boot_list (PyProof.Rows.callWith_type1 (PyProof.Rows.args_cons ?_ rfl) rfl rfl))
  refine Call_ (ld_blt I hg2 hm2 PyProof.Rows.boot_zip (PyProof.Rows.callWith_type1 (thn (ha.run q pins s σ H _ I h) fun us s1 ⟨vs, H1, I1, r1, q1⟩ => ?_) hs hpl))
  obtain ⟨a, b, xs, ys, rfl, hx, hy, few, fin⟩ := q1
  cases r1 with
  | cons r rr => cases rr with
    | cons r' rr =>
      cases rr
      cases r
      cases r'
      obtain ⟨its, rv, pl, _⟩ := I1.list hx
      obtain ⟨its2, rv2, pl2, _⟩ := I1.list hy
      have l1 : its.toArray.size = xs.length := by rw [List.size_toArray, rv.length]
      have l2 : its2.toArray.size = ys.length := by rw [List.size_toArray, rv2.length]
      refine call_zip_2 pl.isList pl2.isList fun h' hz hTI hTO h1 h2 hsz hk => PyProof.Rows.args_nil ?_
      have la : a < s1.heap.objs.size := pl.lt
      have lb : b < s1.heap.objs.size := pl2.lt
      let D : Zp := ⟨s1.heap.objs.size + 4, s1.heap.objs.size + 2, s1.heap.objs.size + 3, s1.heap.objs.size, s1.heap.objs.size + 1, a, b⟩
      have L : D.Lt h'.objs.size := by
        rw [hsz]
        exact ⟨nC (by decide), nC (by decide), nC (by decide), nC (k := 0) (by decide), nC (by decide), nD 5 la, nD 5 lb⟩
      refine call_list_zip (s := { s1 with heap := h' }) (D := D) (xs := its.toArray) (ys := its2.toArray) (PySem.W.ktu_apart s1.heap.objs.size a b la lb) L (I1.ok.hd hc) (by rw [l1, l2, sizeLine_eq]; exact few) ⟨hTI, h1, h2, pl.isList.at fun o e => hk _ o e, pl2.isList.at fun o e => hk _ o e, hz, _, _, hTO⟩ fun h2 hE => ?_
      obtain ⟨acc, c, Ts, g1, g2, g3, ⟨g4, g5⟩, g6⟩ := hE
      have k2 : ∀ b o, s1.heap.get? b = some o → h2.get? b = some o := fun b o e => by
        have lt := Heap.lt_size e
        exact g6 b o (nB lt hsz) (nA 4 lt) (nA 3 lt) (nA 0 lt) (nA 1 lt) (hk b o e)
      have big : ∀ T ∈ Ts, s1.heap.objs.size + 5 < T := fun T hT => by
        obtain ⟨j, hj⟩ := List.mem_iff_getElem?.mp hT
        have := (g4 j T hj).1
        rw [show ({ s1 with heap := h' } : Shared).heap.objs.size = h'.objs.size from rfl, hsz] at this
        exact this
      have nT : ∀ T ∈ Ts, H1 T = none := fun T hT => I1.hok.fresh (nE (big T hT))
      have hS : h'.objs.size = s1.heap.objs.size + 5 := hsz
      have nS : HT H1 Ts xs ys h'.objs.size = none := by
        rw [HT_no fun z => nF (big _ z) hS rfl]
        exact I1.hok.fresh (nG hS)
      have ex1 : Ext H1 (HT H1 Ts xs ys) := HT_ext nT
      have ex : Ext H1 (upd (HT H1 Ts xs ys) h'.objs.size (.lst (Ts.map V.ref))) := ex1.trans (Ext.upd nS)
      have hlen : Ts.length = min xs.length ys.length := by rw [g3, l1, l2]
      refine ⟨.ref h'.objs.size, _, Inv.call (s := s1) I1 (ch := []) (g' := s1.gens) (d' := s1.drawn) (t' := s1.toks) (un_more k2 ex fun b hb n => ?_) (hok_more I1.hok k2 ex fun b u e n => ?_) I1.bare (fun _ z => nomatch z), rfl, fin Ts h'.objs.size hlen g5 nT nS⟩
      · rw [upd_ne (nB hb hS), HT_no fun z => nH hb (big _ z)]
        exact n
      · by_cases hb : b = h'.objs.size
        · subst hb
          rw [upd_same] at e
          cases e
          exact ⟨by rw [List.length_map, hlen, sizeLine_eq]; exact few, Ts.map Value.ref, c, vals_refs Ts, by rw [← g2, Array.toArray_toList]; exact g1⟩
        · rw [upd_ne hb] at e
          obtain ⟨j, x, y, j1, j2, j3, rfl⟩ := HT_at e n
          obtain ⟨_, u, v, e1, e2, e3⟩ := g4 j b j1
          refine ⟨by rw [sizeLine_eq]; show 2 ≤ _; omega, [u, v], .cons (vals_at rv j2 (by simpa using e1)) (.cons (vals_at rv2 j3 (by simpa using e2)) .nil), _, e3, rfl, 0, rfl⟩
end
section
variable {K : PySem.W.Frag}
/-- fresh, by an operation that makes other objects too -/
def OpFX (K : PySem.W.Frag) (r : List V → Hp → VK → Prop) (f : List PyData → Option (List PyData)) : Prop :=
  ∀ (S : Addr → Prop) (H : Hp) (xs : List V) (ds es : List PyData) (Q : VK), RpA K S H xs ds → f ds = some es →
    (∀ H' p vs, Ext H H' → H' p = none → RpA K S H' vs es → Q (.ref p) (upd H' p (.lst vs))) → r xs H Q
def zlF : List PyData → Option (List PyData)
  | [.list xs, .list ys] => if min xs.length ys.length ≤ 16777216 then some (zipL xs ys) else none
  | _ => none
theorem opFX_zl : OpFX K (rZL K) zlF := by
  intro S H xs ds es Q r e q
  unfold zlF at e
  split at e
  · split at e
    · rename_i few
      cases e
      cases r with
      | cons r1 r2 =>
        obtain ⟨v2, rfl, r3⟩ := rpa1 r2
        cases r1 with
        | lst h t => cases r3 with
          | lst h2 t2 =>
            rw [← t.length, ← t2.length] at few
            exact ⟨_, _, _, _, rfl, h.sq, h2.sq, few, fun Ts p hl pw hn np => q _ p _ (HT_ext hn) np (HT_rp hl pw hn t t2)⟩
    · cases e
  · cases e
variable {wx : WXs} {M W U : List Nat}
theorem tD_appFX {r : List V → Hp → VK → Prop} {f : List PyData → Option (List PyData)} {es : Env → R (List PyData)} {mg : Str → Option Value} {σ : L2.St} {H : Hp} {Q : VK} (hf : OpFX K r f) (hW : W.isEmpty = true) (hU : sb U M = true)
    (h : tDF K mg wx M U (eAppF f es) σ H Q) : tDA K mg wx M W U es σ H fun xs H1 => r xs H1 Q := by
  have hW : W = [] := by simpa using hW
  subst hW
  obtain ⟨δ, b, L, fin⟩ := h
  refine ⟨δ, b, L, ?_⟩
  unfold eAppF at fin
  cases e1 : es δ with
  | bad => rw [e1] at fin; exact fin
  | exc c g x e' => rw [e1] at fin; exact fin
  | ok d δ1 =>
    rw [e1] at fin
    intro v H1 L1 g1 r1
    cases e3 : f d with
    | none => simp only [R.bind, e3] at fin; exact fin.elim
    | some z =>
      simp only [R.bind, e3] at fin
      exact hf _ H1 v d z Q r1 e3 fun H' p vs ex np rv => finF_op fin (L1.ext ex) (g1.trans (Gr.ext ex) (fun _ h => h) (fun _ (h : _ ∈ ([] : List Nat)) => by simp at h)) hU np rv
end
section
variable {X : Cx} {wx : WXs} {M W U : List Nat} {e e2 : Expr} {evs : Env → R (List PyData)} {p p2 q pos : Pos}
theorem pfd_listZip (hc : X.calm = true) (hm : X.mg "list" = none) (hm2 : X.mg "zip" = none) (ha : PAD X wx M W U [e, e2] evs) (hW : W.isEmpty = true := by rfl) (hU : sb U M = true := by rfl) (hg : Gl X "list" := by rfl) (hg2 : Gl X "zip" := by rfl)
    (hs : starEach [e, e2] X.env = (false, eval e X.env) :: starEach [e2] X.env := by rfl) (hpl : (backTo q (starEach [e2] X.env)).any (·.1) = false := by rfl) :
    PFD X wx M U (.Call (.Name "list" p) [.Call (.Name "zip" p2) [e, e2] [] q] [] pos) (eAppF zlF evs) := pe_imp (pe_listZip hc hg hm hg2 hm2 ha hs hpl) fun σ H Q h => tD_appFX opFX_zl hW hU h
end
end BD
/-! words for the plain side: sets, zips, ranges -/
namespace BD
open PySem
theorem iR1_ {ev : Ev} {δ δ1 : Env} {n : Int} (h : ev δ = .ok (.int n) δ1) (i : inR n = true) : iR1 ev δ = .ok (rngL 0 n) δ1 := by
  rw [vR1, h]
  show (match PyData.int n with | .int j => if inR j = true then R.ok (rngL 0 j) δ1 else .bad | _ => .bad) = _
  simp only [i, if_true]
theorem eLc_ {vs : List Nat} {g : PyData → Env → Option Env} {it : Env → R (List PyData)} {t : Env → R Bool} {el : Ev} {δ δ1 δ2 δ3 : Env} {ds acc : List PyData} (h : it δ = .ok ds δ1) (h2 : lcL g t el vs ds (wipeD δ1 vs) [] = .ok acc δ2) (h3 : rest vs δ1 δ2 = δ3) : eLc vs g it t el δ = .ok (.list acc) δ3 := by
  rw [vLc, h]
  dsimp only
  rw [h2, ← h3]
theorem unp_ {g : PyData → Env → Option Env} {ev : Ev} {δ δ1 δ2 : Env} {d : PyData} (h : ev δ = .ok d δ1) (h2 : g d δ1 = some δ2) : sUnp g ev δ = .nx δ2 := by
  unfold sUnp liftR
  rw [h]
  dsimp only
  rw [h2]
theorem tup_ {a b : Ev} {δ δ1 δ2 : Env} {x y : PyData} (h : a δ = .ok x δ1) (h2 : b δ1 = .ok y δ2) : eApp fTup (eCons a (eCons b eNil)) δ = .ok (.tuple [x, y]) δ2 := app_ (cons_ h (cons_ h2 nil_)) rfl
theorem neD_of {a b : PyData} {c : Bool} (h : eqD a b = some c) : neD a b = some (!c) := by
  unfold eqD at h
  unfold neD
  split at h
  · rename_i q
    rw [if_pos q, Option.some.inj h]
  · cases h
@[simp] theorem ssF_l (ns : List Int) : ssF [.list (ns.map .int)] = if ns.length < 64 then some ((ssI ns).map .int) else none := by simp [ssF, ssL, asIs_map]
@[simp] theorem ssF_t (ns : List Int) : ssF [.tuple (ns.map .int)] = if ns.length < 64 then some ((ssI ns).map .int) else none := by simp [ssF, ssL, asIs_map]
@[simp] theorem lsD_l (ns : List Int) : lsD [.list (ns.map .int)] = if ns.length ≤ 1000 then some (.int ((ssI ns).length : Nat)) else none := by simp [lsD, lsL, asIs_map]
@[simp] theorem lsD_t (ns : List Int) : lsD [.tuple (ns.map .int)] = if ns.length ≤ 1000 then some (.int ((ssI ns).length : Nat)) else none := by simp [lsD, lsL, asIs_map]
@[simp] theorem lsD_q (b : Bool) (ns : List Int) : lsD [sqd b (ns.map .int)] = if ns.length ≤ 1000 then some (.int ((ssI ns).length : Nat)) else none := by cases b <;> simp [sqd]
@[simp] theorem zlF_l (xs ys : List PyData) : zlF [.list xs, .list ys] = if min xs.length ys.length ≤ 16777216 then some (zipL xs ys) else none := rfl
@[simp] theorem v_slL (xs : List PyData) (a b : Option Int) : slD (.list xs) a b = some (.list (cutL xs a b)) := rfl
@[simp] theorem v_slT (xs : List PyData) (a b : Option Int) : slD (.tuple xs) a b = some (.tuple (cutL xs a b)) := rfl
theorem cut_from {α : Type} (xs : List α) (k : Nat) : cutL xs (some (k : Int)) none = xs.drop k := by
  unfold cutL
  rw [HT.sIx_nat, HT.sIx_none]
  by_cases h : k ≤ xs.length
  · rw [Nat.min_eq_left h, List.take_of_length_le (by rw [List.length_drop]; exact Nat.le_refl _)]
  · rw [Nat.min_eq_right (by omega), List.drop_of_length_le (Nat.le_refl _), List.drop_of_length_le (by omega)]
    simp
theorem cut_to {α : Type} (xs : List α) (k : Nat) : cutL xs none (some (k : Int)) = xs.take k := by
  unfold cutL
  rw [HT.sIx_nat, HT.sIx_none]
  by_cases h : k ≤ xs.length
  · rw [Nat.min_eq_left h]; simp
  · rw [Nat.min_eq_right (by omega), List.take_of_length_le (by simp), List.take_of_length_le (by omega)]; rfl
theorem cut_one {α : Type} (xs : List α) : cutL xs (some 1) none = xs.drop 1 := cut_from xs 1
end BD
/-! a, b = x, y where a new list goes to a name that is a cell from here on -/
namespace BD
open PySem PySem.Spec PyProof.Rows L2
section
variable {K : PySem.W.Frag} {M U U1 U2 : List Nat} {b : Bs} {σ : L2.St} {H H1 H2 : Hp} {δ δ1 : Env} {p q : Addr}
theorem RpA.trk {S : Addr → Prop} : ∀ {vs : List V} {ds : List PyData}, RpA K S H vs ds → RpA K (fun q => S q ∧ ∃ o, H q = some o) H vs ds
  | _, _, .nil => .nil
  | _, _, .cons r t => .cons r.trk (RpA.trk t)
/-- what was there stands while others are evaluated -/
theorem carry (L : Loc K M b σ H δ) (g : Gr U σ H H2) (s : sb U M = true) {S2 : Addr → Prop} (hS : ∀ r, Sb M b σ r → (∃ o, H r = some o) → S2 r) {vs : List V} {ds : List PyData} (r : RpA K (Sb M b σ) H vs ds) : RpA K S2 H2 vs ds := by
  have k := L.kp (U := U) (W := []) (sb_of s) (fun _ h => by simp at h) (fun _ _ h => by simp at h) g
  exact r.trk.mono (fun r h => hS r h.1 h.2) ⟨fun p o h e => k.at_ p o (.inr h.1) e, k.tup⟩
theorem hid_keep (L : Loc K M (bz b p) σ H δ) (g : Gr U σ H H2) (s : sb U M = true) {vs : List V} (hp : H p = some (.lst vs)) : H2 p = some (.lst vs) := g p _ hp fun c => by
  obtain ⟨j, hj, ej⟩ := c
  have m := L.mu j (sb_of s j hj)
  rw [ej] at m
  revert m
  cases δ[j]? with
  | none => exact fun m => m.elim
  | some u => cases u with
    | none => exact fun m => m.elim
    | some du =>
      rintro ⟨a', ws', es, h1, _, _, _, _, h6⟩
      cases h1
      exact h6 (.inr rfl)
theorem Sb.del {i : Nat} {v : V} {r : Addr} (h : Sb M b σ r) : Sb (del M i) b (σ.set i (some v)) r :=
  ⟨fun ⟨j, hj, e⟩ => h.1 ⟨j, (mem_del.mp hj).1, by
    rw [List.getElem?_set_ne (Ne.symm (mem_del.mp hj).2)] at e
    exact e⟩, h.2⟩
theorem Sb.ins {i : Nat} {r : Addr} (h : Sb M (bz b p) σ r) : Sb (ins i M) b (σ.set i (some (.ref p))) r :=
  ⟨fun ⟨j, hj, e⟩ => by
    rw [set_at] at e
    by_cases hij : i = j
    · rw [if_pos hij] at e
      by_cases hl : i < σ.length
      · rw [if_pos hl] at e
        cases e
        exact h.2.1 (.inr rfl)
      · rw [if_neg hl] at e; cases e
    · rw [if_neg hij] at e
      rcases mem_ins.mp hj with z | z
      · exact hij z.symm
      · exact h.1 ⟨j, z, e⟩, fun z => h.2.1 (.inl z), h.2.2⟩
theorem set2 {α : Type} {i j : Nat} (h : i ≠ j) (l : List α) (x y : α) : (l.set j y).set i x = (l.set i x).set j y := List.set_comm _ _ (Ne.symm h)
end
section
variable {X : Cx} {c : Sx} {M M1 M2 W U U1 U2 : List Nat}
theorem gs2 {i j : Nat} {d e : PyData} {δ : Env} : gsCons (gNm i) (gsCons (gNm j) gsNil) [d, e] δ = some ((δ.set i (some d)).set j (some e)) := rfl
theorem rf_ne {b : Bs} {i : Nat} (B : BOk c b) (h : c.rs.contains i = false) : ∀ q ∈ b.rf, q.1 ≠ i := fun q hq z => by
  have := B.rf q hq
  rw [z] at this
  simp [this] at h
theorem rf_nez {b : Bs} {i : Nat} {p : Addr} (B : BOk c b) (h : c.rs.contains i = false) : ∀ q ∈ (bz b p).rf, q.1 ≠ i := fun q hq => rf_ne (b := b) B h q hq
theorem exc_un {K : PySem.W.Frag} {mg : Str → Option Value} {b : Bs} {p : Addr} {k f : Str} {x : PyData} {cls : Value} {dd : Option Addr} {H : Hp} (ex : ExcR K mg (Nb (bz b p)) k f x cls dd H) : ExcR K mg (Nb b) k f x cls dd H := by
  exact ex
/-- new list, then a value -/
theorem psd_parFP (i j : Nat) {x y : Str} {a e : Expr} {ea eb : Ev} {px py pt pos : Pos} {kt k2 : Nat} {pt2 : Pos} (hc : X.calm = true) (hN : X.N.Nodup) (ha : PFD X c.wx M U1 a ea) (he : PD X c.wx M W U2 e eb) (hU : sb U2 M = true := by rfl) (hW : W.isEmpty = true := by rfl) (hm : okM c M = true := by rfl)
    (hij : i ≠ j := by decide) (hri : c.rs.contains i = false := by rfl) (hrj : c.rs.contains j = false := by rfl) (hi : X.N[i]? = some x := by rfl) (hj : X.N[j]? = some y := by rfl) (hx : X.env.scope.names.lookup x = some .local := by rfl) (hy : X.env.scope.names.lookup y = some .local := by rfl)
    (hw : swappedStores [.Tuple [.Name x px, .Name y py] kt pt] (.Tuple [a, e] k2 pt2) X.env = pure (some [x, y]) := by rfl)
    (hs : swapsWithSole [.Tuple [.Name x px, .Name y py] kt pt] (.Tuple [a, e] k2 pt2) pos.line X.env = pure false := by rfl)
    (h1 : starEach [a, e] X.env = (false, eval a X.env) :: starEach [e] X.env := by rfl) (h2 : starEach [e] X.env = (false, eval e X.env) :: starEach [] X.env := by rfl) :
    PSD X c M (ins i (del M j)) (.Assign [.Tuple [.Name x px, .Name y py] kt pt] (.Tuple [a, e] k2 pt2) pos) (sPar (gsCons (gNm i) (gsCons (gNm j) gsNil)) (eCons ea (eCons eb eNil))) := by
  have hW : W = [] := by simpa using hW
  subst hW
  refine ps_imp (ps_par hc hN hi hj hij hx hy (pa_cons ha (pa_cons he pa_nil h2) h1) hw hs) fun D σ H ⟨δ, b, B, L, f⟩ => ⟨δ, b, L, ?_⟩
  unfold sPar eCons at f
  cases e1 : ea δ with
  | bad => rw [e1] at f; exact f
  | exc k g' x e' => rw [e1] at f; exact f.exc_e hm
  | ok d δ1 =>
    rw [e1] at f
    rintro v H1 ⟨⟨p, vs, ds, rfl, rfl, np, hp, L1, r⟩, g1⟩
    refine ⟨δ1, bz b p, L1, ?_⟩
    simp only [R.bind] at f
    cases e2 : eb δ1 with
    | bad => rw [e2] at f; exact f
    | exc k g' x e' =>
      rw [e2] at f
      exact fun cls dd H' L' g2 ex => f.exc_e hm cls dd H' L'.unhide (g1.trans g2 inl_app inr_app) (exc_un ex)
    | ok d2 δ2 =>
      rw [e2] at f
      intro w H2 P
      refine ⟨.ref p, w, rfl, ?_⟩
      simp only [R.bind, eNil, gs2] at f
      have hp2 := hid_keep L1 P.gr hU hp
      have r2 := carry L1 P.gr hU (S2 := Sb M (bz b p) σ) (fun _ h _ => h) r
      have La := P.loc.set (P.rp.mono (fun _ h => h.nil) (Ext.refl _).kp) (rf_nez B hrj)
      have Lb := La.setF hp2 (r2.mono (fun _ h => h.del) (Ext.refl _).kp) (rf_ne B hri) (B.z p)
      rw [set2 hij, set2 hij] at Lb
      exact f _ _ Lb
/-- a value, then a new list -/
theorem psd_parPF (i j : Nat) {x y : Str} {a e : Expr} {ea eb : Ev} {px py pt pos : Pos} {kt k2 : Nat} {pt2 : Pos} (hc : X.calm = true) (hN : X.N.Nodup) (ha : PD X c.wx M W U1 a ea) (he : PFD X c.wx M U2 e eb) (hU : sb U2 M = true := by rfl) (hW : W.isEmpty = true := by rfl) (hm : okM c M = true := by rfl)
    (hij : i ≠ j := by decide) (hri : c.rs.contains i = false := by rfl) (hrj : c.rs.contains j = false := by rfl) (hi : X.N[i]? = some x := by rfl) (hj : X.N[j]? = some y := by rfl) (hx : X.env.scope.names.lookup x = some .local := by rfl) (hy : X.env.scope.names.lookup y = some .local := by rfl)
    (hw : swappedStores [.Tuple [.Name x px, .Name y py] kt pt] (.Tuple [a, e] k2 pt2) X.env = pure (some [x, y]) := by rfl)
    (hs : swapsWithSole [.Tuple [.Name x px, .Name y py] kt pt] (.Tuple [a, e] k2 pt2) pos.line X.env = pure false := by rfl)
    (h1 : starEach [a, e] X.env = (false, eval a X.env) :: starEach [e] X.env := by rfl) (h2 : starEach [e] X.env = (false, eval e X.env) :: starEach [] X.env := by rfl) :
    PSD X c M (ins j (del M i)) (.Assign [.Tuple [.Name x px, .Name y py] kt pt] (.Tuple [a, e] k2 pt2) pos) (sPar (gsCons (gNm i) (gsCons (gNm j) gsNil)) (eCons ea (eCons eb eNil))) := by
  have hW : W = [] := by simpa using hW
  subst hW
  refine ps_imp (ps_par hc hN hi hj hij hx hy (pa_cons ha (pa_cons he pa_nil h2) h1) hw hs) fun D σ H ⟨δ, b, B, L, f⟩ => ⟨δ, b, L, ?_⟩
  unfold sPar eCons at f
  cases e1 : ea δ with
  | bad => rw [e1] at f; exact f
  | exc k g' x e' => rw [e1] at f; exact f.exc_e hm
  | ok d δ1 =>
    rw [e1] at f
    rintro v H1 P
    refine ⟨δ1, b, P.loc, ?_⟩
    simp only [R.bind] at f
    cases e2 : eb δ1 with
    | bad => rw [e2] at f; exact f
    | exc k g' x e' =>
      rw [e2] at f
      exact fun cls dd H' L' g2 ex => f.exc_e hm cls dd H' L' (P.gr.trans g2 inl_app inr_app) ex
    | ok d2 δ2 =>
      rw [e2] at f
      rintro w H2 ⟨⟨p, vs, ds, rfl, rfl, np, hp, L2, r⟩, g2⟩
      refine ⟨v, .ref p, rfl, ?_⟩
      simp only [R.bind, eNil, gs2] at f
      have rv := carry P.loc g2 hU (S2 := Sb M (bz b p) σ) (fun r h ⟨o, z⟩ => ⟨h.1, fun y => (by
        rcases y with y | y
        · exact h.2.1 y
        · rw [y, np] at z; cases z), h.2.2⟩) (RpA.one (P.rp.mono (fun _ h => h.nil) (Ext.refl _).kp))
      have rv : Rp X.K (Sb M (bz b p) σ) H2 v d := by
        cases rv with
        | cons h _ => exact h
      have La := L2.set rv (rf_nez B hri)
      have Lb := La.setF hp (r.mono (fun _ h => h.del) (Ext.refl _).kp) (rf_ne B hrj) (B.z p)
      exact f _ _ Lb
theorem bz_comm {K : PySem.W.Frag} {b : Bs} {p q : Addr} {σ : L2.St} {H : Hp} {δ : Env} (L : Loc K M (bz (bz b p) q) σ H δ) : Loc K M (bz (bz b q) p) σ H δ :=
  L.b_eq rfl rfl rfl (fun r h => ⟨h.1, fun z => h.2.1 (by rcases z with (z | z) | z; exact .inl (.inl z); exact .inr z; exact .inl (.inr z)), h.2.2⟩) fun r z => by
    rcases z with (z | z) | z
    · exact .inl (.inl z)
    · exact .inr z
    · exact .inl (.inr z)
/-- two new lists -/
theorem psd_parFF (i j : Nat) {x y : Str} {a e : Expr} {ea eb : Ev} {px py pt pos : Pos} {kt k2 : Nat} {pt2 : Pos} (hc : X.calm = true) (hN : X.N.Nodup) (ha : PFD X c.wx M U1 a ea) (he : PFD X c.wx M U2 e eb) (hU : sb U2 M = true := by rfl) (hm : okM c M = true := by rfl)
    (hij : i ≠ j := by decide) (hri : c.rs.contains i = false := by rfl) (hrj : c.rs.contains j = false := by rfl) (hi : X.N[i]? = some x := by rfl) (hj : X.N[j]? = some y := by rfl) (hx : X.env.scope.names.lookup x = some .local := by rfl) (hy : X.env.scope.names.lookup y = some .local := by rfl)
    (hw : swappedStores [.Tuple [.Name x px, .Name y py] kt pt] (.Tuple [a, e] k2 pt2) X.env = pure (some [x, y]) := by rfl)
    (hs : swapsWithSole [.Tuple [.Name x px, .Name y py] kt pt] (.Tuple [a, e] k2 pt2) pos.line X.env = pure false := by rfl)
    (h1 : starEach [a, e] X.env = (false, eval a X.env) :: starEach [e] X.env := by rfl) (h2 : starEach [e] X.env = (false, eval e X.env) :: starEach [] X.env := by rfl) :
    PSD X c M (ins i (ins j M)) (.Assign [.Tuple [.Name x px, .Name y py] kt pt] (.Tuple [a, e] k2 pt2) pos) (sPar (gsCons (gNm i) (gsCons (gNm j) gsNil)) (eCons ea (eCons eb eNil))) := by
  refine ps_imp (ps_par hc hN hi hj hij hx hy (pa_cons ha (pa_cons he pa_nil h2) h1) hw hs) fun D σ H ⟨δ, b, B, L, f⟩ => ⟨δ, b, L, ?_⟩
  unfold sPar eCons at f
  cases e1 : ea δ with
  | bad => rw [e1] at f; exact f
  | exc k g' x e' => rw [e1] at f; exact f.exc_e hm
  | ok d δ1 =>
    rw [e1] at f
    rintro v H1 ⟨⟨p, vs, ds, rfl, rfl, np, hp, L1, r⟩, g1⟩
    refine ⟨δ1, bz b p, L1, ?_⟩
    simp only [R.bind] at f
    cases e2 : eb δ1 with
    | bad => rw [e2] at f; exact f
    | exc k g' x e' =>
      rw [e2] at f
      exact fun cls dd H' L' g2 ex => f.exc_e hm cls dd H' L'.unhide (g1.trans g2 inl_app inr_app) (exc_un ex)
    | ok d2 δ2 =>
      rw [e2] at f
      rintro w H2 ⟨⟨q, ws, es, rfl, rfl, nq, hq, L2, r2⟩, g2⟩
      refine ⟨.ref p, .ref q, rfl, ?_⟩
      simp only [R.bind, eNil, gs2] at f
      have hp2 := hid_keep L1 g2 hU hp
      have r1 := carry L1 g2 hU (S2 := Sb M (bz (bz b p) q) σ) (fun r h ⟨o, z⟩ => ⟨h.1, fun y => (by
        rcases y with y | y
        · exact h.2.1 y
        · rw [y, nq] at z; cases z), h.2.2⟩) r
      have hqp : q ≠ p := fun z => by rw [z, hp] at nq; cases nq
      have La := L2.setF hq r2 (i := j) (rf_nez B hrj) (fun z => by
        rcases z with z | z
        · exact B.z q z
        · exact hqp z)
      have Lb := La.setF hp2 (r1.mono (fun _ h => h.ins) (Ext.refl _).kp) (rf_ne B hri) (B.z p)
      rw [set2 hij, set2 hij] at Lb
      exact f _ _ Lb
theorem gs3 {i j l : Nat} {d e g : PyData} {δ : Env} : gsCons (gNm i) (gsCons (gNm j) (gsCons (gNm l) gsNil)) [d, e, g] δ = some (((δ.set i (some d)).set j (some e)).set l (some g)) := rfl
theorem set3 {α : Type} {i j k : Nat} (h : i ≠ j) (h2 : i ≠ k) (h3 : j ≠ k) (l : List α) (x y z : α) : ((l.set k z).set j y).set i x = ((l.set i x).set j y).set k z := by
  rw [set2 h3, set2 h2, set2 h]
/-- two new lists, then a value -/
theorem psd_parFFP (i j l : Nat) {x y z : Str} {a e e' : Expr} {ea eb ec : Ev} {px py pz pt pos : Pos} {kt k2 : Nat} {pt2 : Pos} {U3 : List Nat} (hc : X.calm = true) (hN : X.N.Nodup) (ha : PFD X c.wx M U1 a ea) (he : PFD X c.wx M U2 e eb) (he' : PD X c.wx M W U3 e' ec) (hU : sb U2 M = true := by rfl) (hU3 : sb U3 M = true := by rfl) (hW : W.isEmpty = true := by rfl) (hm : okM c M = true := by rfl)
    (hij : i ≠ j := by decide) (hil : i ≠ l := by decide) (hjl : j ≠ l := by decide) (hri : c.rs.contains i = false := by rfl) (hrj : c.rs.contains j = false := by rfl) (hrl : c.rs.contains l = false := by rfl) (hi : X.N[i]? = some x := by rfl) (hj : X.N[j]? = some y := by rfl) (hl : X.N[l]? = some z := by rfl)
    (hx : X.env.scope.names.lookup x = some .local := by rfl) (hy : X.env.scope.names.lookup y = some .local := by rfl) (hz : X.env.scope.names.lookup z = some .local := by rfl)
    (hw : swappedStores [.Tuple [.Name x px, .Name y py, .Name z pz] kt pt] (.Tuple [a, e, e'] k2 pt2) X.env = pure (some [x, y, z]) := by rfl)
    (hs : swapsWithSole [.Tuple [.Name x px, .Name y py, .Name z pz] kt pt] (.Tuple [a, e, e'] k2 pt2) pos.line X.env = pure false := by rfl)
    (h1 : starEach [a, e, e'] X.env = (false, eval a X.env) :: starEach [e, e'] X.env := by rfl) (h2 : starEach [e, e'] X.env = (false, eval e X.env) :: starEach [e'] X.env := by rfl) (h3 : starEach [e'] X.env = (false, eval e' X.env) :: starEach [] X.env := by rfl) :
    PSD X c M (ins i (ins j (del M l))) (.Assign [.Tuple [.Name x px, .Name y py, .Name z pz] kt pt] (.Tuple [a, e, e'] k2 pt2) pos) (sPar (gsCons (gNm i) (gsCons (gNm j) (gsCons (gNm l) gsNil))) (eCons ea (eCons eb (eCons ec eNil)))) := by
  have hW : W = [] := by simpa using hW
  subst hW
  refine ps_imp (ps_par3 hc hN hi hj hl hij hil hjl hx hy hz (pa_cons ha (pa_cons he (pa_cons he' pa_nil h3) h2) h1) hw hs) fun D σ H ⟨δ, b, B, L, f⟩ => ⟨δ, b, L, ?_⟩
  unfold sPar eCons at f
  cases e1 : ea δ with
  | bad => rw [e1] at f; exact f
  | exc k g' x e' => rw [e1] at f; exact f.exc_e hm
  | ok d δ1 =>
    rw [e1] at f
    rintro v H1 ⟨⟨p, vs, ds, rfl, rfl, np, hp, L1, r⟩, g1⟩
    refine ⟨δ1, bz b p, L1, ?_⟩
    simp only [R.bind, eCons] at f
    cases e2 : eb δ1 with
    | bad => rw [e2] at f; exact f
    | exc k g' x e' =>
      rw [e2] at f
      exact fun cls dd H' L' g2 ex => f.exc_e hm cls dd H' L'.unhide (g1.trans g2 inl_app inr_app) (exc_un ex)
    | ok d2 δ2 =>
      rw [e2] at f
      rintro w H2 ⟨⟨q, ws, es, rfl, rfl, nq, hq, L2, r2⟩, g2⟩
      refine ⟨δ2, bz (bz b p) q, L2, ?_⟩
      have hp2 := hid_keep L1 g2 hU hp
      have r1 := carry L1 g2 hU (S2 := Sb M (bz (bz b p) q) σ) (fun r h ⟨o, z⟩ => ⟨h.1, fun y => (by
        rcases y with y | y
        · exact h.2.1 y
        · rw [y, nq] at z; cases z), h.2.2⟩) r
      have hqp : q ≠ p := fun z => by rw [z, hp] at nq; cases nq
      simp only [R.bind] at f
      cases e3 : ec δ2 with
      | bad => rw [e3] at f; exact f
      | exc k g' x e' =>
        rw [e3] at f
        exact fun cls dd H' L' g3 ex => f.exc_e hm cls dd H' L'.unhide.unhide ((g1.trans g2 inl_app inr_app).trans g3 inl_app inr_app) (exc_un (exc_un ex))
      | ok d3 δ3 =>
        rw [e3] at f
        intro w3 H3 P
        refine ⟨.ref p, .ref q, w3, rfl, ?_⟩
        simp only [R.bind, eNil, gs3] at f
        have hq3 := hid_keep L2 P.gr hU3 hq
        have hp3 := hid_keep (bz_comm L2) P.gr hU3 hp2
        have rq := carry L2 P.gr hU3 (S2 := Sb M (bz (bz b p) q) σ) (fun _ h _ => h) r2
        have rp := carry L2 P.gr hU3 (S2 := Sb M (bz (bz b p) q) σ) (fun _ h _ => h) r1
        have La := P.loc.set (P.rp.mono (fun _ h => h.nil) (Ext.refl _).kp) (fun q hq => rf_ne (b := b) B hrl q hq)
        have Lb := La.setF hq3 (rq.mono (fun _ h => h.del) (Ext.refl _).kp) (i := j) (rf_nez B hrj) (fun z => by
          rcases z with z | z
          · exact B.z q z
          · exact hqp z)
        have Lc := Lb.setF hp3 (rp.mono (fun _ h => h.del.ins) (Ext.refl _).kp) (rf_ne B hri) (B.z p)
        rw [set3 hij hil hjl, set3 hij hil hjl] at Lc
        exact f _ _ Lc
end
end BD
/-! return a if t else b, of new lists and cells -/
namespace BD
open PySem PySem.Spec PyProof.Rows L2
section
variable {X : Cx} {c : Sx} {M M1 W U : List Nat}
def RTD (X : Cx) (c : Sx) (M : List Nat) (e : Expr) (ev : Ev) : Prop := ∃ t : TE, PE X e t ∧ ∀ D σ H, tDS X.K X.mg c M M (sRet ev) D σ H → t σ H D.rt
theorem rtd_F {e : Expr} {ev : Ev} (he : PFD X c.wx M U e ev) (hm : okM c M = true := by rfl) : RTD X c M e ev := by
  refine ⟨_, he, fun D σ H ⟨δ, b, B, L, f⟩ => ⟨δ, b, L, ?_⟩⟩
  unfold sRet liftR at f
  cases e1 : ev δ with
  | bad => rw [e1] at f; exact f
  | exc k g x e' => rw [e1] at f; exact f.exc_e hm
  | ok d δ1 =>
    rw [e1] at f
    intro v H1 ⟨⟨p, vs, ds, e2, e3, np, hp, L1, r⟩, g⟩
    subst e2 e3
    have nb : b.B p = none := by
      cases q : b.B p with
      | none => rfl
      | some o =>
        obtain ⟨o', h'⟩ := L.trk p o q
        rw [np] at h'; cases h'
    have rr : RpA X.K (fun q => SW M [] b σ q ∧ q ≠ p) H1 vs ds := r.mono (fun q h => ⟨.inr ⟨h.1, fun z => h.2.1 (.inl z), h.2.2⟩, fun z => h.2.1 (.inr z)⟩) (Ext.refl _).kp
    exact f _ H1 ⟨M, [], σ, L1.unhide, rfl, fun q hq => by simp, .lst (.inl ⟨.inr (L.nw (fun _ h => h) np), .inl hp⟩) (rr.mono (fun q h => h.1) (Ext.refl _).kp), fun _ => ⟨p, vs, ds, rfl, rfl, hp, rr, .inl nb⟩⟩
theorem rtd_C (i : Nat) {x : Str} {p : Pos} (hM : M.contains i = true := by rfl) (h2 : c.rs.contains i = false := by rfl) (hN : X.N[i]? = some x := by rfl) (hv : Vis X.env.scope x := by first | exact Or.inl rfl | exact Or.inr (Or.inl rfl) | exact Or.inr (Or.inr rfl))
    (hd : (x == ("__debug__" : Str)) = false := by decide) (hcd : (x == ("__classdict__" : Str)) = false := by decide) : RTD X c M (.Name x p) (eVar i) := by
  refine ⟨_, pe_var hN hv hd hcd, fun D σ H ⟨δ, b, B, L, f⟩ => ?_⟩
  have nM : i ∈ M := by simpa using hM
  unfold sRet liftR at f
  cases e : eVar i δ with
  | bad => rw [e] at f; exact f.elim
  | exc k g x e' => exact (eVar_exc e).elim
  | ok d δ' =>
    obtain ⟨e1, rfl⟩ := eVar_ok e
    rw [e] at f
    obtain ⟨q, vs, ds, e2, rfl, h1, r, hB, hZ⟩ := getSlotM (L.mu i nM) e1
    have cl : Cl [i] σ q := ⟨i, by simp, e2⟩
    have rr : RpA X.K (fun a => SW M [i] b σ a ∧ a ≠ q) H vs ds := r.mono (fun a h => ⟨.inr h, fun z => h.1 (by rw [z]; exact ⟨i, nM, e2⟩)⟩) (Ext.refl _).kp
    have nr : ∀ z ∈ b.rf, z.1 ∉ [i] := fun z hz w => by
      have h := B.rf z hz
      rw [List.mem_singleton.mp w] at h
      simp [h] at h2
    exact ⟨_, e2, f _ H ⟨M, [i], σ, L, by simp [sb, nM], nr, .lst (.inl ⟨.inl cl, .inl h1⟩) (rr.mono (fun _ h => h.1) (Ext.refl _).kp), fun _ => ⟨q, vs, ds, rfl, rfl, h1, rr, .inr cl⟩⟩⟩
theorem psd_retIf {t a e : Expr} {et : Env → R Bool} {ea eb : Ev} {p pos : Pos} (ht : PTD X c.wx M U t et) (ha : RTD X c M a ea) (he : RTD X c M e eb) (hm : okM c M = true := by rfl) : PSD X c M M1 (.Return (some (.IfExp t a e p)) pos) (sRet (eIf et ea eb)) := by
  obtain ⟨ta, h1, f1⟩ := ha
  obtain ⟨tb, h2, f2⟩ := he
  refine ps_imp (ps_ret (pe_ifExp ht h1 h2)) fun D σ H ⟨δ, b, B, L, f⟩ => ⟨δ, b, L, ?_⟩
  unfold sRet liftR eIf at f
  cases e1 : et δ with
  | bad => rw [e1] at f; exact f
  | exc k g x e' => rw [e1] at f; exact f.exc_e hm
  | ok d δ1 =>
    rw [e1] at f
    intro H1 L1 g1
    have conv : ∀ {ev : Ev}, FinS X.K X.mg c M1 b (liftR (ev δ1) fun d δ2 => .rt d δ2) D → FinS X.K X.mg c M b (sRet ev δ1) D := fun {ev} q => by
      unfold sRet
      unfold liftR at q ⊢
      cases z : ev δ1 with
      | bad => rw [z] at q; exact q
      | exc k g x e' => rw [z] at q; exact q
      | ok d δ2 => rw [z] at q; exact q
    cases d with
    | true =>
      simp only [if_true]
      simp only [R.bind, if_true] at f
      exact f1 D σ H1 ⟨δ1, b, B, L1, conv f⟩
    | false =>
      simp only [Bool.false_eq_true, if_false]
      simp only [R.bind, Bool.false_eq_true, if_false] at f
      exact f2 D σ H1 ⟨δ1, b, B, L1, conv f⟩
end
end BD
/-! a, b, c = [..], v, w where one of the names is a closure's: by a tuple in between -/
namespace BD
open PySem PySem.Spec PyProof.Rows L2
section
variable {X : Cx} {c : Sx} {M W U U1 U2 : List Nat}
theorem psd_unpFPP (i j l : Nat) {x y z : Str} {a e e' : Expr} {ea eb ec : Ev} {px py pz pt pos : Pos} {kt k2 : Nat} {pt2 : Pos} {U3 W2 : List Nat} (hc : X.calm = true) (hN : X.N.Nodup) (ha : PFD X c.wx M U1 a ea) (he : PD X c.wx M W U2 e eb) (he' : PD X c.wx M W2 U3 e' ec) (hU : sb U2 M = true := by rfl) (hU3 : sb U3 M = true := by rfl) (hW : W.isEmpty = true := by rfl) (hW2 : W2.isEmpty = true := by rfl) (hm : okM c M = true := by rfl)
    (hij : i ≠ j := by decide) (hil : i ≠ l := by decide) (hjl : j ≠ l := by decide) (hri : c.rs.contains i = false := by rfl) (hrj : c.rs.contains j = false := by rfl) (hrl : c.rs.contains l = false := by rfl) (hi : X.N[i]? = some x := by rfl) (hj : X.N[j]? = some y := by rfl) (hl : X.N[l]? = some z := by rfl)
    (hx : L2.Loc X.env.scope x := by first | exact Or.inl rfl | exact Or.inr rfl) (hy : L2.Loc X.env.scope y := by first | exact Or.inl rfl | exact Or.inr rfl) (hz : L2.Loc X.env.scope z := by first | exact Or.inl rfl | exact Or.inr rfl)
    (fx : X.fn x = true ∨ X.env.scope.names.lookup x = some .local := by first | exact .inl rfl | exact .inr rfl | assumption) (fy : X.fn y = true ∨ X.env.scope.names.lookup y = some .local := by first | exact .inl rfl | exact .inr rfl | assumption) (fz : X.fn z = true ∨ X.env.scope.names.lookup z = some .local := by first | exact .inl rfl | exact .inr rfl | assumption)
    (hs : swapsWithSole [.Tuple [.Name x px, .Name y py, .Name z pz] kt pt] (.Tuple [a, e, e'] k2 pt2) pos.line X.env = pure false := by rfl)
    (hw : swappedStores [.Tuple [.Name x px, .Name y py, .Name z pz] kt pt] (.Tuple [a, e, e'] k2 pt2) X.env = pure none := by rfl)
    (ht : (assignEach [.Tuple [.Name x px, .Name y py, .Name z pz] kt pt] X.env).map (·.2) = [assign (.Tuple [.Name x px, .Name y py, .Name z pz] kt pt) X.env] := by rfl)
    (hn : (assignEach [.Name x px, .Name y py, .Name z pz] X.env).length = 3 := by rfl) (hst : (assignEach [.Name x px, .Name y py, .Name z pz] X.env).findIdx? (·.1) = none := by rfl)
    (h1 : starEach [a, e, e'] X.env = (false, eval a X.env) :: starEach [e, e'] X.env := by rfl) (h2 : starEach [e, e'] X.env = (false, eval e X.env) :: starEach [e'] X.env := by rfl) (h3 : starEach [e'] X.env = (false, eval e' X.env) :: starEach [] X.env := by rfl) :
    PSD X c M (ins i (del (del M l) j)) (.Assign [.Tuple [.Name x px, .Name y py, .Name z pz] kt pt] (.Tuple [a, e, e'] k2 pt2) pos) (sPar (gsCons (gNm i) (gsCons (gNm j) (gsCons (gNm l) gsNil))) (eCons ea (eCons eb (eCons ec eNil)))) := by
  have hW : W = [] := by simpa using hW
  have hW2 : W2 = [] := by simpa using hW2
  subst hW hW2
  refine ps_imp (ps_asg (pe_tup (pa_cons ha (pa_cons he (pa_cons he' pa_nil h3) h2) h1)) (pg_tup hc (pgs_cons (pg_name hN hi hx fx) (pgs_cons (pg_name hN hj hy fy) (pgs_cons (pg_name hN hl hz fz) pgs_nil))) hn hst) hs hw ht) fun D σ H ⟨δ, b, B, L, f⟩ => ⟨δ, b, L, ?_⟩
  unfold sPar eCons at f
  cases e1 : ea δ with
  | bad => rw [e1] at f; exact f
  | exc k g' x e' => rw [e1] at f; exact f.exc_e hm
  | ok d δ1 =>
    rw [e1] at f
    rintro v H1 ⟨⟨p, vs, ds, rfl, rfl, np, hp, L1, r⟩, g1⟩
    refine ⟨δ1, bz b p, L1, ?_⟩
    simp only [R.bind, eCons] at f
    cases e2 : eb δ1 with
    | bad => rw [e2] at f; exact f
    | exc k g' x e' =>
      rw [e2] at f
      exact fun cls dd H' L' g2 ex => f.exc_e hm cls dd H' L'.unhide (g1.trans g2 inl_app inr_app) (exc_un ex)
    | ok d2 δ2 =>
      rw [e2] at f
      intro w H2 P2
      refine ⟨δ2, bz b p, P2.loc, ?_⟩
      have hp2 := hid_keep L1 P2.gr hU hp
      have r1 := carry L1 P2.gr hU (S2 := Sb M (bz b p) σ) (fun _ h _ => h) r
      simp only [R.bind] at f
      cases e3 : ec δ2 with
      | bad => rw [e3] at f; exact f
      | exc k g' x e' =>
        rw [e3] at f
        exact fun cls dd H' L' g3 ex => f.exc_e hm cls dd H' L'.unhide ((g1.trans P2.gr inl_app inr_app).trans g3 inl_app inr_app) (exc_un ex)
      | ok d3 δ3 =>
        rw [e3] at f
        intro w3 H3 P
        simp only [R.bind, eNil, gs3] at f
        have hp3 := hid_keep P2.loc P.gr hU3 hp2
        have rp := carry P2.loc P.gr hU3 (S2 := Sb M (bz b p) σ) (fun _ h _ => h) r1
        have rw2 := carry P2.loc P.gr hU3 (S2 := Sb M (bz b p) σ) (fun _ h _ => h) (RpA.one (P2.rp.mono (fun _ h => h.nil) (Ext.refl _).kp))
        have rw2 : Rp X.K (Sb M (bz b p) σ) H3 w d2 := by
          cases rw2 with
          | cons h _ => exact h
        refine ⟨by rw [sizeLine_eq]; simp, fun t nt => ⟨t, [.ref p, w, w3], rfl, .inl (.inl upd_same), rfl, ?_⟩⟩
        have ex : Ext H3 (upd H3 t (.tup [.ref p, w, w3])) := Ext.upd nt
        have L4 := P.loc.ext ex
        have hp4 := ex p _ hp3
        have rp4 := rp.mono (fun _ h => h) ex.kp
        have rw4 := rw2.mono (fun _ h => h) ex.kp
        have rl4 := P.rp.mono (S' := Sb M (bz b p) σ) (fun _ h => h.nil) ex.kp
        have La := L4.set rl4 (rf_nez B hrl)
        have Lb := La.set (rw4.mono (fun _ h => h.del) (Ext.refl _).kp) (rf_nez B hrj)
        have Lc := Lb.setF hp4 (rp4.mono (fun _ h => h.del.del) (Ext.refl _).kp) (rf_ne B hri) (B.z p)
        rw [set3 hij hil hjl, set3 hij hil hjl] at Lc
        refine ⟨_, _, rfl, ?_⟩
        unfold gName
        dsimp only
        refine ⟨_, _, rfl, ?_⟩
        dsimp only
        refine ⟨_, _, rfl, ?_⟩
        dsimp only
        exact ⟨rfl, f _ _ Lc⟩
end
end BD
/-! a tuple (or a list) backwards: t[::-1] -/
namespace BD
open PySem PySem.Spec PyProof.Rows L2
section
variable {prog : Program} {w : World} {A : Around} {E : Value → Shared → Prop} {s : Shared}
theorem places_rev (n : Nat) : Builtin.Slice.slicePlaces ((n : Int) - 1) (-1) (-1) = n := by
  unfold Builtin.Slice.slicePlaces
  simp
  split <;> omega
theorem adjust_rev (n : Nat) : Builtin.Slice.sliceAdjust none none (-1) (n : Int) = ((n : Int) - 1, -1) := by
  unfold Builtin.Slice.sliceAdjust
  simp
theorem applied_rev {sl : Addr} {vl vu vs : Value} {n : Nat} {Q : Int × Int × Nat → Shared → Prop} (hs : s.heap.IsSliceOf sl vl vu vs) (pl : IsPart vl none) (pu : IsPart vu none) (ps : IsPart vs (some (-1))) (h : Q ((n : Int) - 1, -1, n) s) :
    wpAny (model prog w) A (Builtin.Slice.sliceApplied (.ref sl) (pure (n : Int))) Q E s := by
  obtain ⟨os, hos, hcs, hds⟩ := id hs
  unfold Builtin.Slice.sliceApplied Builtin.Slice.sliceFields
  refine wpAny_bind (wpAny_bind (wpAny_field hos hds (x := vl) rfl (wpAny_bind (wpAny_field hos hds (x := vu) rfl (wpAny_bind (wpAny_field hos hds (x := vs) rfl (wpAny_pure ?_)))))))
  refine wpAny_bind (HT.slicePart_ ps ?_)
  show wpAny _ _ (if ((-1 : Int) == 0) = true then _ else _) _ _ s
  rw [if_neg (by decide)]
  refine wpAny_bind (HT.slicePart_ pl (wpAny_bind (HT.slicePart_ pu (wpAny_bind (wpAny_pure ?_)))))
  show wpAny _ _ (match Builtin.Slice.sliceAdjust none none (-1) (n : Int) with | (lo, hi) => pure (lo, (-1 : Int), Builtin.Slice.slicePlaces lo hi (-1))) _ _ s
  rw [adjust_rev]
  show wpAny _ _ (pure ((n : Int) - 1, (-1 : Int), Builtin.Slice.slicePlaces ((n : Int) - 1) (-1) (-1))) _ _ s
  rw [places_rev]
  exact wpAny_pure h
theorem fm_congr {α β : Type} {f g : α → Option β} : ∀ {l : List α}, (∀ k ∈ l, f k = g k) → l.filterMap f = l.filterMap g
  | [], _ => rfl
  | a :: l, h => by rw [List.filterMap_cons, List.filterMap_cons, h a List.mem_cons_self, fm_congr fun k hk => h k (List.mem_cons_of_mem _ hk)]
theorem pick_rev (xs : Array Value) : ((List.range xs.size).filterMap fun (k : Nat) => xs[((xs.size : Int) - 1 + (k : Int) * (-1)).toNat]?).toArray = xs.toList.reverse.toArray := by
  congr 1
  have e : ((List.range xs.size).filterMap fun (k : Nat) => xs[((xs.size : Int) - 1 + (k : Int) * (-1)).toNat]?) = (List.range xs.size).filterMap fun k => xs.toList.reverse[k]? := by
    refine fm_congr fun k hk => ?_
    have hk := List.mem_range.mp hk
    rw [List.getElem?_reverse (by simpa using hk), Array.getElem?_toList]
    congr 1
    simp
    omega
  rw [e]
  have : ∀ l : List Value, (List.range l.length).filterMap (fun k => l[k]?) = l := by
    intro l
    induction l with
    | nil => rfl
    | cons a l ih =>
      rw [List.length_cons, List.range_succ_eq_map, List.filterMap_cons]
      simp only [List.getElem?_cons_zero, List.filterMap_map]
      congr 1
  have h := this xs.toList.reverse
  rw [List.length_reverse, Array.length_toList] at h
  exact h
theorem getItem_rev {t sl : Addr} {items : Array Value} {vl vu vs : Value} {Q : Value → Shared → Prop} (ht : IsTup s.heap t items) (hs : s.heap.IsSliceOf sl vl vu vs) (pl : IsPart vl none) (pu : IsPart vu none) (ps : IsPart vs (some (-1))) (hsz : items.size ≤ sizeLine)
    (h : Q (.ref s.heap.objs.size) { s with heap := s.heap.push { cls := .type "tuple", data := .seq items.toList.reverse.toArray } }) : wpAny (model prog w) A (getItem (.ref t) (.ref sl)) Q E s := by
  have ok : sizeOk (.seq items.toList.reverse.toArray) := by
    show items.toList.reverse.toArray.size ≤ sizeLine
    simpa using hsz
  obtain ⟨os, hos, hcs, hds⟩ := id hs
  have ty : s.TypeIs (.ref sl) "slice" := ⟨os, hos, hcs⟩
  unfold getItem
  try with_reducible refine wpAny_holding ?_
  first | refine wpAny_bind (wpAny_pure ?_) | skip
  refine wpAny_bind (wpAny_sequenceKey ht.typeIs (by decide) (wpAny_bind (wpAny_callSpecial?_slot (name := Str.ofString "__getitem__") ht.typeIs PyProof.Rows.slot_tuple_getitem (wpAny_call_entry PyProof.Rows.slot_tuple_getitem ht.typeIs entry_tuple_getitem ?_ (args_tuple_getitem _ _)))))
  show wpAny _ _ (Builtin.Tuple.tupleItemsOf (.ref t) >>= _) _ _ s
  refine wpAny_bind (tupleItemsOf_ ht (wpAny_bind (wpAny_typeOf ty ?_)))
  rw [if_pos (by decide)]
  refine wpAny_bind (applied_rev hs pl pu ps ?_)
  have no : ¬ (((((items.size : Nat) : Int) - 1) == 0 && (-1 : Int) == 1 && items.size == items.size) = true) := by
    simp
  show wpAny _ _ (if ((((items.size : Nat) : Int) - 1) == 0 && (-1 : Int) == 1 && items.size == items.size) = true then _ else _) _ _ s
  rw [if_neg no, pick_rev]
  first
    | exact wpAny_bind (m := Builtin.Tuple.tupleExact _) (wpAny_newObj_type (wpAny_pure ⟨_, rfl, wpAny_pure h⟩) ok)
    | exact wpAny_bind (m := Builtin.Tuple.tupleExact _) (wpAny_newObj_type (wpAny_bind (wpAny_pure (wpAny_pure ⟨_, rfl, wpAny_pure h⟩))) ok)
    | exact wpAny_bind (wpAny_bind (m := Builtin.Tuple.tupleExact _) (wpAny_newObj_type (wpAny_pure (wpAny_pure ⟨_, rfl, wpAny_pure h⟩)) ok))
    | exact wpAny_bind (wpAny_bind (m := Builtin.Tuple.tupleExact _) (wpAny_newObj_type (wpAny_pure ⟨_, rfl, wpAny_pure h⟩) ok))
end
section
variable {X : Cx}
def tRevA (K : PySem.W.Frag) (te : TE) : TE := fun σ H Q => te σ H fun x H1 => ∃ a xs, x = .ref a ∧ ((SqL K H1 a xs ∧ ∀ p, H1 p = none → Q (.ref p) (upd H1 p (.lst xs.reverse))) ∨ (SqT K H1 a xs ∧ ∀ p, H1 p = none → Q (.ref p) (upd H1 p (.tup xs.reverse))))
theorem pe_revA {e : Expr} {te : TE} {k : Nat} {p1 p2 p3 pos : Pos} (he : PE X e te) : PE X (.Subscript e (.Slice none none (some (.UnaryOp .USub (.Constant (.int 1) k p1) p2)) p3) pos) (tRevA X.K te) := by
  refine ⟨fun pins s σ H Q I h => ?_⟩
  refine Subscript_ (thn (he.run pins s σ H _ I h) fun v s1 ⟨x, H1, I1, r1, q1⟩ => ?_)
  obtain ⟨a, xs, rfl, hx⟩ := q1
  cases r1
  have st : PO X (some (.UnaryOp .USub (.Constant (.int 1) k p1) p2)) (tPart (tUn (rU fun i => .int (-i)) (tC (.int 1)))) := po_some (pe_un un_neg pe_int)
  refine wpAny_Slice (thn (po_none.run pins s1 σ H1 (fun o H2 => o = none ∧ H2 = H1) I1 ⟨rfl, rfl⟩) fun vl s2 ⟨l, H2, I2, pl, el, e2⟩ => ?_)
  subst el e2
  refine thn (po_none.run pins s2 σ H2 (fun o H3 => o = none ∧ H3 = H2) I2 ⟨rfl, rfl⟩) fun vu s3 ⟨u, H3, I3, pu, eu, e3⟩ => ?_
  subst eu e3
  refine thn (st.run pins s3 σ H3 (fun o H4 => o = some (-1) ∧ H4 = H3) I3 ⟨1, rfl, -1, rfl, rfl, rfl⟩) fun vs s4 ⟨o, H4, I4, ps, eo, e4⟩ => ?_
  subst eo e4
  have I5 : Inv X pins σ H4 { s4 with heap := s4.heap.push { cls := .type "slice", data := .fields #[vl, vu, vs] } } := I4.kept (t' := s4.toks) fun b ob q => Heap.get?_push_of_some _ q
  show wpAny (model X.prog X.w) X.A (subscriptTail e (.Slice none none (some (.UnaryOp .USub (.Constant (.int 1) k p1) p2)) p3) (.ref a) (.ref s4.heap.objs.size)) (EP X pins σ Q) X.xe { s4 with heap := s4.heap.push { cls := .type "slice", data := .fields #[vl, vu, vs] } }
  rcases hx with ⟨hx, q⟩ | ⟨hx, q⟩
  · obtain ⟨its, r, ht, hz⟩ := I5.list hx
    have hl := r.length
    refine tail_any (ops := [.ref a, .ref s4.heap.objs.size]) ht.isList.typeIs (PySem.slot_list_getitem.lookup) ?_ (by with_unfolding_all rfl)
    refine wpAny_getItem_list_slice ht.isList (Heap.IsSliceOf.new _ vl vu vs) pl pu ps (by decide) ?_ (by rw [List.size_toArray]; omega)
    rw [PySem.W.krv_pick]
    exact ⟨.ref _, _, I5.laid (t' := s4.toks) (o := .lst xs.reverse) (fun b ob q => Heap.get?_push_of_some _ q) (Nat.le_refl _) ⟨by rw [List.length_reverse]; exact hz, _, 0, r.reverse, Heap.get?_push_size _ rfl⟩, rfl, q _ (I5.hok.fresh (Nat.le_refl _))⟩
  · obtain ⟨its, r, ht, hz⟩ := I5.tuple hx
    have hl := r.length
    refine tail_any (ops := [.ref a, .ref s4.heap.objs.size]) ht.typeIs (PyProof.Rows.slot_tuple_getitem.lookup) ?_ (by with_unfolding_all rfl)
    refine getItem_rev ht (Heap.IsSliceOf.new _ vl vu vs) pl pu ps (by rw [List.size_toArray]; omega) ?_
    exact ⟨.ref _, _, I5.laid (t' := s4.toks) (o := .tup xs.reverse) (fun b ob q => Heap.get?_push_of_some _ q) (Nat.le_refl _) ⟨by rw [List.length_reverse]; exact hz, its.reverse, r.reverse, IsTup.new _ _⟩, rfl, q _ (I5.hok.fresh (Nat.le_refl _))⟩
end
section
variable {X : Cx} {wx : WXs} {M W U : List Nat}
def revD : PyData → Option PyData
  | .list xs => some (.list xs.reverse)
  | .tuple xs => some (.tuple xs.reverse)
  | _ => none
theorem pd_revA {e : Expr} {ea : Ev} {k : Nat} {p1 p2 p3 pos : Pos} (ha : PD X wx M W U e ea) (hW : W.isEmpty = true := by rfl) :
    PD X wx M [] U (.Subscript e (.Slice none none (some (.UnaryOp .USub (.Constant (.int 1) k p1) p2)) p3) pos) (eUn revD ea) := by
  have hW : W = [] := by simpa using hW
  subst hW
  refine pe_imp (pe_revA ha) fun σ H Q ⟨δ, b, L, fin⟩ => ⟨δ, b, L, ?_⟩
  unfold eUn at fin
  cases e1 : ea δ with
  | bad => rw [e1] at fin; exact fin
  | exc c g x e' => rw [e1] at fin; exact fin
  | ok d δ1 =>
    rw [e1] at fin
    intro v H1 p
    simp only [R.bind] at fin
    have rr := p.rp
    cases rr with
    | lst h t => exact ⟨_, _, rfl, .inl ⟨h.sq, fun q nq => fin_op fin p.loc p.gr (Ext.upd nq) (.lst (.inl ⟨.inr nq, .inl upd_same⟩) (t.rev.ext (fun _ h => .inl h) (Ext.upd nq)))⟩⟩
    | tup h t => exact ⟨_, _, rfl, .inr ⟨h, fun q nq => fin_op fin p.loc p.gr (Ext.upd nq) (.tup (.inl (.inl upd_same)) (t.rev.ext (fun _ h => .inl h) (Ext.upd nq)))⟩⟩
    | _ => exact fin.elim
end
@[simp] theorem v_revL (xs : List PyData) : revD (.list xs) = some (.list xs.reverse) := rfl
@[simp] theorem v_revT (xs : List PyData) : revD (.tuple xs) = some (.tuple xs.reverse) := rfl
end BD
/-! enumerate(zip(a, b)): the zip's own step, whether its last pair is still out or not -/
namespace BD
open PySem PySem.Spec PyProof.Rows L2
open Sem (wp)
/-- a zip; f0, f: what it knows of the pair it gave out -/
abbrev ZF (h : Heap) (z TI TO : Addr) (f0 : Value) (f : Bool) : Prop :=
  h.get? z = some { cls := .type "zip", dict := none, data := .fields #[f0, .bool f, .bool false, .ref TI, .ref TO], slots := #[] }
def ZZ (h : Heap) (z TI TO : Addr) : Prop := ∃ f0 f, (f0 = .none ∨ ∃ T : Addr, f0 = rawInt T) ∧ ZF h z TI TO f0 f
theorem ZZ.at {h h' : Heap} {z TI TO : Addr} (x : ZZ h z TI TO) (k : ∀ o, h.get? z = some o → h'.get? z = some o) : ZZ h' z TI TO := let ⟨a, b, c, d⟩ := x; ⟨a, b, c, k _ d⟩
theorem ZZ.lt {h : Heap} {z TI TO : Addr} (x : ZZ h z TI TO) : z < h.objs.size := let ⟨_, _, _, d⟩ := x; Heap.lt_size d
section
variable {prog : Program} {w : World} {A : Around} {E : Value → Shared → Prop} {s : Shared}
theorem own_free {z TI TO : Addr} {f0 : Value} {f : Bool} {Q : Bool → Shared → Prop} (h0 : f0 = .none ∨ ∃ T : Addr, f0 = rawInt T) (hz : ZF s.heap z TI TO f0 f)
    (ht : Q true s) (hf : ∀ h' (T : Addr), ZF h' z TI TO (rawInt T) true → Heap.SameBut z s.heap h' → Q false { s with heap := h' }) : wpAny (model prog w) A (Builtin.SmallTypes.ownedTupleIsFree (.ref z)) Q E s := by
  unfold Builtin.SmallTypes.ownedTupleIsFree
  rcases h0 with rfl | ⟨T, rfl⟩
  · exact wpAny_bind (wpAny_field hz rfl (x := .none) rfl (wpAny_pure ht))
  · refine wpAny_bind (wpAny_field hz rfl (x := rawInt T) rfl ?_)
    show wpAny _ _ (loadIfAlive ((T : Int).toNat) >>= _) _ _ _
    rw [Int.toNat_natCast]
    cases e : s.heap.get? T with
    | none =>
      have L : ∀ {Q' : Option Obj → Shared → Prop}, Q' none s → wpAny (model prog w) A (loadIfAlive T) Q' E s := fun {Q'} q => by
        have h' : Q' (s.heap.get? T) s := by rw [e]; exact q
        exact fun _ _ _ => h'
      refine wpAny_bind (L ?_)
      simp only [Option.isNone_none, if_true]
      exact wpAny_pure ht
    | some o =>
      refine wpAny_bind (PySem.W.kdx_alive e ?_)
      simp only [Option.isNone_some, Bool.false_eq_true, if_false]
      refine wpAny_bind (wpAny_field hz rfl (x := .bool f) rfl ?_)
      cases f with
      | true =>
        rw [if_neg (show ¬ ((Value.bool true != Value.bool true) = true) from Bool.false_ne_true)]
        exact wpAny_pure (hf s.heap T hz (Heap.SameBut.refl _ _))
      | false =>
        rw [if_pos (show (Value.bool false != Value.bool true) = true from rfl)]
        exact wpAny_bind (wpAny_setField_rec hz (by simp) fun h₁ hz₁ hs₁ => wpAny_pure (hf h₁ T hz₁ hs₁))
end
/-- what a zip's step leaves alone -/
def Zst (z TO i1 i2 : Addr) (h h' : Heap) : Prop := ∀ c o, c ≠ z → c ≠ TO → c ≠ i1 → c ≠ i2 → h.get? c = some o → h'.get? c = some o
section
variable {prog : Program} {w : World} {A : Around} {E : Value → Shared → Prop} {s : Shared} {z TI TO i1 i2 : Addr} {fp1 fp2 : List Addr} {n1 n2 i : Nat} {P1 P2 : Nat → Value → Prop} {St1 St2 : Nat → Heap → Prop} {a1 a2 : Value}
theorem zn_item {Q : Value → Shared → Prop} (S : ZipSep2 z TI TO i1 i2 fp1 fp2) (D1 : Draws prog w A i1 fp1 n1 P1 St1) (D2 : Draws prog w A i2 fp2 n2 P2 St2)
    (hzz : ZZ s.heap z TI TO) (hTI : IsTupOf2 s.heap TI (.ref i1) (.ref i2)) (hTO : IsTupOf2 s.heap TO a1 a2) (st1 : St1 i s.heap) (st2 : St2 i s.heap) (hlt1 : i < n1) (hlt2 : i < n2)
    (hQ : ∀ x1 x2 h' tk, P1 i x1 → P2 i x2 → ZZ h' z TI TO → (∃ b1 b2, IsTupOf2 h' TO b1 b2) → St1 (i + 1) h' → St2 (i + 1) h' → IsTupOf2 h' s.heap.objs.size x1 x2 → h'.objs.size = s.heap.objs.size + 1 →
      Zst z TO i1 i2 s.heap h' → Q (.ref s.heap.objs.size) { s with heap := h', toks := tk }) :
    wpAny (model prog w) A (Builtin.«zip.__next__» ⟨[.ref z], []⟩) (fun fin s' => ∃ v, fin = .done (.ret v) ∧ Q v s') E s := by
  obtain ⟨f0, f, hf0, hz⟩ := hzz
  obtain ⟨hp, g, d, tk0, os⟩ := s
  show wpAny _ _ (field (.ref z) 2 >>= _) _ _ _
  refine wpAny_bind (wpAny_field hz rfl (x := .bool false) rfl ?_)
  show wpAny _ _ (field (.ref z) 3 >>= _) _ _ _
  refine wpAny_bind (wpAny_field hz rfl (x := .ref TI) rfl ?_)
  refine wpAny_bind (wpAny_seqItems hTI rfl ?_)
  show wpAny _ _ (Builtin.SmallTypes.ownedTupleIsFree (.ref z) >>= _) _ _ _
  refine wpAny_bind (own_free hf0 hz ?_ fun h₁ T hz₁ hs₁ => ?_)
  · -- its own tuple once more
    simp only [if_true]
    refine wpAny_bind (wpAny_rule ?_)
    refine wpAny_bind (wpAny_field hz rfl (x := .ref TO) rfl ?_)
    refine wpAny_bind (wpAny_setField_rec hz (by simp) fun g0 hz0 hs0 => ?_)
    replace hz0 : ZF g0 z TI TO .ellipsis f := hz0
    replace hs0 : Heap.SameBut z hp g0 := hs0
    refine wpAny_bind ?_
    simp only [List.zipIdx_cons, List.zipIdx_nil, List.forIn_cons, List.forIn_nil]
    refine wpAny_bind (wpAny_bind (wpAny_onRaise ?_))
    show wpAny _ _ (Builtin.SmallTypes.nextOf (.ref i1) >>= _) _ _ ⟨g0, g, d, tk0, os⟩
    refine wpAny_bind (D1.item i _ _ _ hlt1 (D1.over st1 hs0 S.zf1) fun x1 p1 tk1 hx1 sn1 hp1 => wpAny_pure ?_)
    replace hp1 : Heap.SameBut i1 g0 p1 := hp1
    have hU1 : IsTupOf2 p1 TO a1 a2 := hp1.extBut _ _ S.Ti1 (hs0.extBut _ _ S.TOz hTO)
    refine wpAny_bind (wpAny_seqItems (s := ⟨p1, g, d, tk1, os⟩) hU1 rfl ?_)
    refine wpAny_bind (updateSeq_IsTupOf2 (s := ⟨p1, g, d, tk1, os⟩) hU1 fun g1 hT1 hs1 => ?_)
    replace hT1 : IsTupOf2 g1 TO x1 a2 := hT1
    replace hs1 : Heap.SameBut TO p1 g1 := hs1
    refine wpAny_bind (wpAny_letGo (wpAny_pure ?_))
    refine wpAny_bind (wpAny_bind (wpAny_onRaise ?_))
    show wpAny _ _ (Builtin.SmallTypes.nextOf (.ref i2) >>= _) _ _ ⟨g1, g, d, tk1, os⟩
    refine wpAny_bind (D2.item i _ _ _ hlt2 (D2.over (D2.over (D2.over st2 hs0 S.zf2) hp1 S.sep1_2) hs1 S.Tf2) fun x2 p2 tk2 hx2 sn2 hp2 => wpAny_pure ?_)
    replace hp2 : Heap.SameBut i2 g1 p2 := hp2
    have hU2 : IsTupOf2 p2 TO x1 a2 := hp2.extBut _ _ S.Ti2 hT1
    refine wpAny_bind (wpAny_seqItems (s := ⟨p2, g, d, tk2, os⟩) hU2 rfl ?_)
    refine wpAny_bind (updateSeq_IsTupOf2 (s := ⟨p2, g, d, tk2, os⟩) hU2 fun g2 hT2 hs2 => ?_)
    replace hT2 : IsTupOf2 g2 TO x1 x2 := hT2
    replace hs2 : Heap.SameBut TO p2 g2 := hs2
    refine wpAny_bind (wpAny_letGo (wpAny_pure (wpAny_pure ?_)))
    refine wpAny_bind (wpAny_seqItems (s := ⟨g2, g, d, tk2, os⟩) hT2 rfl ?_)
    refine wpAny_bind (wpAny_newTuple ?_)
    have hsz : g2.objs.size = hp.objs.size := by rw [hs2.1, hp2.1, hs1.1, hp1.1, hs0.1]
    have hzz : ZF g2 z TI TO .ellipsis f := (hs2.extBut _ _ S.TOz.symm (hp2.extBut _ _ S.zi2 (hs1.extBut _ _ S.TOz.symm (hp1.extBut _ _ S.zi1 hz0))))
    have hkk : Zst z TO i1 i2 hp g2 := fun c o cz cT c1 c2 e =>
      (hs2.extBut _ _ cT (hp2.extBut _ _ c2 (hs1.extBut _ _ cT (hp1.extBut _ _ c1 (hs0.extBut _ _ cz e)))))
    have hj1 : St1 (i + 1) g2 := (D1.over (D1.over (D1.over sn1 hs1 S.Tf1) hp2 S.sep2_1) hs2 S.Tf1)
    have hj2 : St2 (i + 1) g2 := (D2.over sn2 hs2 S.Tf2)
    have hzlt : z < g2.objs.size := Heap.lt_size hzz
    show wpAny _ _ (Builtin.SmallTypes.ownedTupleHandOut (.ref z) (.ref g2.objs.size) >>= _) _ _ ⟨g2.push { cls := .type "tuple", data := .seq #[x1, x2] }, g, d, tk2, os⟩
    refine wpAny_bind ?_
    unfold Builtin.SmallTypes.ownedTupleHandOut
    have hz₆ : ZF (g2.push { cls := .type "tuple", data := .seq #[x1, x2] }) z TI TO .ellipsis f := Heap.get?_push_of_some _ hzz
    refine wpAny_bind (wpAny_setField_rec hz₆ (by simp) fun h₇ hz₇ hs₇ => ?_)
    replace hz₇ : ZF h₇ z TI TO (rawInt g2.objs.size) f := hz₇
    refine wpAny_setField_rec hz₇ (by simp) fun h₈ hz₈ hs₈ => ?_
    replace hz₈ : ZF h₈ z TI TO (rawInt g2.objs.size) false := hz₈
    replace hs₇ : Heap.SameBut z (g2.push { cls := .type "tuple", data := .seq #[x1, x2] }) h₇ := hs₇
    replace hs₈ : Heap.SameBut z h₇ h₈ := hs₈
    have up : ∀ c o, c ≠ z → g2.get? c = some o → h₈.get? c = some o := fun c o c1 e => hs₈.extBut _ _ c1 (hs₇.extBut _ _ c1 (Heap.get?_push_of_some _ e))
    have hT₈ : IsTupOf2 h₈ g2.objs.size x1 x2 := hs₈.extBut _ _ (Nat.ne_of_gt hzlt) (hs₇.extBut _ _ (Nat.ne_of_gt hzlt) (Heap.get?_push_size _ rfl))
    have hz8 : h₈.objs.size = g2.objs.size + 1 := by rw [hs₈.1, hs₇.1, Heap.size_push]
    rw [hsz] at hz₈ hT₈ hz8
    refine wpAny_pure ⟨_, rfl, ?_⟩
    show Q (.ref g2.objs.size) ⟨h₈, g, d, tk2, os⟩
    rw [hsz]
    exact hQ x1 x2 h₈ tk2 hx1 hx2 ⟨_, _, .inr ⟨_, rfl⟩, hz₈⟩ ⟨_, _, up _ _ S.TOz hT2⟩ (D1.frame _ _ _ hj1 fun b hb o e => up b o (fun q => S.zf1 (q ▸ hb)) e) (D2.frame _ _ _ hj2 fun b hb o e => up b o (fun q => S.zf2 (q ▸ hb)) e) hT₈ hz8 fun c o cz cT c1 c2 e => up c o cz (hkk c o cz cT c1 c2 e)
  · -- a new one
    replace hs₁ : Heap.SameBut z hp h₁ := hs₁
    simp only [Bool.false_eq_true, if_false]
    refine wpAny_bind ?_
    rw [← Array.forIn_toList]
    simp only [List.forIn_cons, List.forIn_nil]
    refine wpAny_bind (wpAny_bind (wpAny_holding ?_))
    show wpAny _ _ (Builtin.SmallTypes.nextOf (.ref i1) >>= _) _ _ ⟨h₁, g, d, tk0, os⟩
    refine wpAny_bind (D1.item i _ _ _ hlt1 (D1.over st1 hs₁ S.zf1) fun x1 p1 tk1 hx1 sn1 hp1 => wpAny_pure ?_)
    replace hp1 : Heap.SameBut i1 h₁ p1 := hp1
    refine wpAny_pure ?_
    refine wpAny_bind (wpAny_bind (wpAny_holding ?_))
    show wpAny _ _ (Builtin.SmallTypes.nextOf (.ref i2) >>= _) _ _ ⟨p1, g, d, tk1, os⟩
    refine wpAny_bind (D2.item i _ _ _ hlt2 (D2.over (D2.over st2 hs₁ S.zf2) hp1 S.sep1_2) fun x2 p2 tk2 hx2 sn2 hp2 => wpAny_pure ?_)
    replace hp2 : Heap.SameBut i2 p1 p2 := hp2
    refine wpAny_pure (wpAny_pure ?_)
    show wpAny _ _ (newTuple [x1, x2] >>= _) _ _ _
    refine wpAny_bind (wpAny_newTuple ?_)
    have hsz : p2.objs.size = hp.objs.size := by rw [hp2.1, hp1.1, hs₁.1]
    have hz₃ : ZF p2 z TI TO (rawInt T) true := hp2.extBut _ _ S.zi2 (hp1.extBut _ _ S.zi1 hz₁)
    have hk : Zst z TO i1 i2 hp p2 := fun c o cz _ c1 c2 e => hp2.extBut _ _ c2 (hp1.extBut _ _ c1 (hs₁.extBut _ _ cz e))
    have hTO2 : IsTupOf2 p2 TO a1 a2 := hp2.extBut _ _ S.Ti2 (hp1.extBut _ _ S.Ti1 (hs₁.extBut _ _ S.TOz hTO))
    have hj1 : St1 (i + 1) p2 := D1.over sn1 hp2 S.sep2_1
    have up : ∀ c o, p2.get? c = some o → (p2.push { cls := .type "tuple", data := .seq #[x1, x2] }).get? c = some o := fun c o e => Heap.get?_push_of_some _ e
    have hT : IsTupOf2 (p2.push { cls := .type "tuple", data := .seq #[x1, x2] }) p2.objs.size x1 x2 := Heap.get?_push_size _ rfl
    have hz4 : (p2.push { cls := .type "tuple", data := .seq #[x1, x2] }).objs.size = p2.objs.size + 1 := Heap.size_push ..
    refine wpAny_pure ⟨_, rfl, ?_⟩
    show Q (.ref p2.objs.size) _
    rw [hsz] at hT hz4 ⊢
    exact hQ x1 x2 _ tk2 hx1 hx2 ⟨_, _, .inr ⟨_, rfl⟩, up _ _ hz₃⟩ ⟨_, _, up _ _ hTO2⟩ (D1.frame _ _ _ hj1 fun b _ o e => up b o e) (D2.frame _ _ _ sn2 fun b _ o e => up b o e) hT hz4 fun c o cz cT c1 c2 e => up c o (hk c o cz cT c1 c2 e)
theorem zn_end {Q : PySem.Fin → Shared → Prop} (S : ZipSep2 z TI TO i1 i2 fp1 fp2) (D1 : Draws prog w A i1 fp1 n1 P1 St1) (D2 : Draws prog w A i2 fp2 n2 P2 St2)
    (hzz : ZZ s.heap z TI TO) (hTI : IsTupOf2 s.heap TI (.ref i1) (.ref i2)) (hTO : IsTupOf2 s.heap TO a1 a2) (st1 : St1 i s.heap) (st2 : St2 i s.heap) (hle1 : i ≤ n1) (hle2 : i ≤ n2) (hend : i = n1 ∨ i = n2)
    (hE : ∀ h' tk e, Zst z TO i1 i2 s.heap h' → (∃ o, h'.get? e = some o ∧ o.cls = .type "StopIteration") → E (.ref e) { s with heap := h', toks := tk }) :
    wpAny (model prog w) A (Builtin.«zip.__next__» ⟨[.ref z], []⟩) Q E s := by
  obtain ⟨f0, f, hf0, hz⟩ := hzz
  obtain ⟨hp, g, d, tk0, os⟩ := s
  show wpAny _ _ (field (.ref z) 2 >>= _) _ _ _
  refine wpAny_bind (wpAny_field hz rfl (x := .bool false) rfl ?_)
  show wpAny _ _ (field (.ref z) 3 >>= _) _ _ _
  refine wpAny_bind (wpAny_field hz rfl (x := .ref TI) rfl ?_)
  refine wpAny_bind (wpAny_seqItems hTI rfl ?_)
  show wpAny _ _ (Builtin.SmallTypes.ownedTupleIsFree (.ref z) >>= _) _ _ _
  refine wpAny_bind (own_free hf0 hz ?_ fun h₁ T hz₁ hs₁ => ?_)
  · simp only [if_true]
    refine wpAny_bind (wpAny_rule ?_)
    refine wpAny_bind (wpAny_field hz rfl (x := .ref TO) rfl ?_)
    refine wpAny_bind (wpAny_setField_rec hz (by simp) fun g0 hz0 hs0 => ?_)
    replace hz0 : ZF g0 z TI TO .ellipsis f := hz0
    replace hs0 : Heap.SameBut z hp g0 := hs0
    refine wpAny_bind ?_
    simp only [List.zipIdx_cons, List.zipIdx_nil, List.forIn_cons, List.forIn_nil]
    refine wpAny_bind (wpAny_bind (wpAny_onRaise ?_))
    show wpAny _ _ (Builtin.SmallTypes.nextOf (.ref i1) >>= _) _ _ ⟨g0, g, d, tk0, os⟩
    by_cases hlt1 : i < n1
    · refine wpAny_bind (D1.item i _ _ _ hlt1 (D1.over st1 hs0 S.zf1) fun x1 p1 tk1 hx1 sn1 hp1 => wpAny_pure ?_)
      replace hp1 : Heap.SameBut i1 g0 p1 := hp1
      have hU1 : IsTupOf2 p1 TO a1 a2 := hp1.extBut _ _ S.Ti1 (hs0.extBut _ _ S.TOz hTO)
      refine wpAny_bind (wpAny_seqItems (s := ⟨p1, g, d, tk1, os⟩) hU1 rfl ?_)
      refine wpAny_bind (updateSeq_IsTupOf2 (s := ⟨p1, g, d, tk1, os⟩) hU1 fun g1 hT1 hs1 => ?_)
      replace hT1 : IsTupOf2 g1 TO x1 a2 := hT1
      replace hs1 : Heap.SameBut TO p1 g1 := hs1
      refine wpAny_bind (wpAny_letGo (wpAny_pure ?_))
      have hi2 : i = n2 := by omega
      refine wpAny_bind (wpAny_bind (wpAny_onRaise ?_))
      show wpAny _ _ (Builtin.SmallTypes.nextOf (.ref i2) >>= _) _ _ ⟨g1, g, d, tk1, os⟩
      refine wpAny_bind (D2.done ⟨g1, g, d, tk1, os⟩ _ _ (by rw [← hi2]; exact (D2.over (D2.over (D2.over st2 hs0 S.zf2) hp1 S.sep1_2) hs1 S.Tf2)) fun q e hq he => ?_)
      replace hq : Heap.ExtBut i2 g1 q := hq
      obtain ⟨oe, hoe, hce⟩ := he
      replace hoe : q.get? e = some oe := hoe
      have hzq : ZF q z TI TO .ellipsis f := hq _ _ S.zi2 (hs1.extBut _ _ S.TOz.symm (hp1.extBut _ _ S.zi1 hz0))
      have hez : e ≠ z := fun x => by subst x; rw [hzq] at hoe; cases hoe; simp at hce
      refine wpAny_setField_rec (s := ⟨q, g, d, tk1, os⟩) hzq (by simp) fun q' _ hq' => ?_
      replace hq' : Heap.SameBut z q q' := hq'
      exact hE q' tk1 e (fun c o cz cT c1 c2 x => hq'.extBut _ _ cz (hq _ _ c2 (hs1.extBut _ _ cT (hp1.extBut _ _ c1 (hs0.extBut _ _ cz x))))) ⟨oe, hq'.extBut _ _ hez hoe, hce⟩
    · have hi1 : i = n1 := by omega
      refine wpAny_bind (D1.done ⟨g0, g, d, tk0, os⟩ _ _ (by rw [← hi1]; exact (D1.over st1 hs0 S.zf1)) fun q e hq he => ?_)
      replace hq : Heap.ExtBut i1 g0 q := hq
      obtain ⟨oe, hoe, hce⟩ := he
      replace hoe : q.get? e = some oe := hoe
      have hzq : ZF q z TI TO .ellipsis f := hq _ _ S.zi1 hz0
      have hez : e ≠ z := fun x => by subst x; rw [hzq] at hoe; cases hoe; simp at hce
      refine wpAny_setField_rec (s := ⟨q, g, d, tk0, os⟩) hzq (by simp) fun q' _ hq' => ?_
      replace hq' : Heap.SameBut z q q' := hq'
      exact hE q' tk0 e (fun c o cz cT c1 c2 x => hq'.extBut _ _ cz (hq _ _ c1 (hs0.extBut _ _ cz x))) ⟨oe, hq'.extBut _ _ hez hoe, hce⟩
  · replace hs₁ : Heap.SameBut z hp h₁ := hs₁
    simp only [Bool.false_eq_true, if_false]
    refine wpAny_bind ?_
    rw [← Array.forIn_toList]
    simp only [List.forIn_cons, List.forIn_nil]
    refine wpAny_bind (wpAny_bind (wpAny_holding ?_))
    show wpAny _ _ (Builtin.SmallTypes.nextOf (.ref i1) >>= _) _ _ ⟨h₁, g, d, tk0, os⟩
    by_cases hlt1 : i < n1
    · refine wpAny_bind (D1.item i _ _ _ hlt1 (D1.over st1 hs₁ S.zf1) fun x1 p1 tk1 hx1 sn1 hp1 => wpAny_pure ?_)
      replace hp1 : Heap.SameBut i1 h₁ p1 := hp1
      refine wpAny_pure ?_
      have hi2 : i = n2 := by omega
      refine wpAny_bind (wpAny_bind (wpAny_holding ?_))
      show wpAny _ _ (Builtin.SmallTypes.nextOf (.ref i2) >>= _) _ _ ⟨p1, g, d, tk1, os⟩
      refine wpAny_bind (D2.done ⟨p1, g, d, tk1, os⟩ _ _ (by rw [← hi2]; exact (D2.over (D2.over st2 hs₁ S.zf2) hp1 S.sep1_2)) fun q e hq he => ?_)
      replace hq : Heap.ExtBut i2 p1 q := hq
      exact hE q tk1 e (fun c o cz cT c1 c2 x => hq _ _ c2 (hp1.extBut _ _ c1 (hs₁.extBut _ _ cz x))) he
    · have hi1 : i = n1 := by omega
      refine wpAny_bind (D1.done ⟨h₁, g, d, tk0, os⟩ _ _ (by rw [← hi1]; exact (D1.over st1 hs₁ S.zf1)) fun q e hq he => ?_)
      replace hq : Heap.ExtBut i1 h₁ q := hq
      exact hE q tk0 e (fun c o cz cT c1 c2 x => hq _ _ c1 (hs₁.extBut _ _ cz x)) he
/-- the next item of the zip within an enumerate -/
theorem zo_item {Q : Value → Shared → Prop} (S : ZipSep2 z TI TO i1 i2 fp1 fp2) (D1 : Draws prog w A.in1 i1 fp1 n1 P1 St1) (D2 : Draws prog w A.in1 i2 fp2 n2 P2 St2)
    (hzz : ZZ s.heap z TI TO) (hTI : IsTupOf2 s.heap TI (.ref i1) (.ref i2)) (hTO : IsTupOf2 s.heap TO a1 a2) (st1 : St1 i s.heap) (st2 : St2 i s.heap) (hlt1 : i < n1) (hlt2 : i < n2)
    (hQ : ∀ x1 x2 h' tk, P1 i x1 → P2 i x2 → ZZ h' z TI TO → (∃ b1 b2, IsTupOf2 h' TO b1 b2) → St1 (i + 1) h' → St2 (i + 1) h' → IsTupOf2 h' s.heap.objs.size x1 x2 → h'.objs.size = s.heap.objs.size + 1 →
      Zst z TO i1 i2 s.heap h' → Q (.ref s.heap.objs.size) { s with heap := h', toks := tk }) :
    wpAny (model prog w) A (Builtin.SmallTypes.nextOf (.ref z)) Q E s := by
  have hT : s.TypeIs (.ref z) "zip" := by obtain ⟨f0, f, _, hz⟩ := hzz; exact ⟨_, hz, rfl⟩
  unfold Builtin.SmallTypes.nextOf
  exact wpAny_bind (wpAny_callSpecial?_slot (name := Str.ofString "__next__") hT F.slot_zip_next
    (wpAny_call_entry F.slot_zip_next hT F.entry_zip_next
      (zn_item S D1 D2 hzz hTI hTO st1 st2 hlt1 hlt2 fun x1 x2 h' tk y1 y2 b1 b2 d1 d2 b5 b6 b7 => wpAny_pure (hQ x1 x2 h' tk y1 y2 b1 b2 d1 d2 b5 b6 b7)) (F.args_zip_next_1 _)))
theorem zo_end {Q : Value → Shared → Prop} (S : ZipSep2 z TI TO i1 i2 fp1 fp2) (D1 : Draws prog w A.in1 i1 fp1 n1 P1 St1) (D2 : Draws prog w A.in1 i2 fp2 n2 P2 St2)
    (hzz : ZZ s.heap z TI TO) (hTI : IsTupOf2 s.heap TI (.ref i1) (.ref i2)) (hTO : IsTupOf2 s.heap TO a1 a2) (st1 : St1 i s.heap) (st2 : St2 i s.heap) (hle1 : i ≤ n1) (hle2 : i ≤ n2) (hend : i = n1 ∨ i = n2)
    (hE : ∀ h' tk e, Zst z TO i1 i2 s.heap h' → (∃ o, h'.get? e = some o ∧ o.cls = .type "StopIteration") → E (.ref e) { s with heap := h', toks := tk }) :
    wpAny (model prog w) A (Builtin.SmallTypes.nextOf (.ref z)) Q E s := by
  have hT : s.TypeIs (.ref z) "zip" := by obtain ⟨f0, f, _, hz⟩ := hzz; exact ⟨_, hz, rfl⟩
  unfold Builtin.SmallTypes.nextOf
  exact wpAny_bind (wpAny_callSpecial?_slot (name := Str.ofString "__next__") hT F.slot_zip_next
    (wpAny_call_entry F.slot_zip_next hT F.entry_zip_next (zn_end S D1 D2 hzz hTI hTO st1 st2 hle1 hle2 hend hE) (F.args_zip_next_1 _)))
end
end BD
namespace BD
open PySem PySem.Spec PyProof.Rows L2
open PySem (sizeLine_eq)
open Sem (wp)
section
variable {prog : Program} {w : World} {A : Around} {E : Value → Shared → Prop} {s : Shared} {e z TI TO i1 i2 : Addr} {fp1 fp2 : List Addr} {n1 n2 i : Nat} {P1 P2 : Nat → Value → Prop} {St1 St2 : Nat → Heap → Prop} {a1 a2 old : Value} {c : Int}
theorem ez_item {Q : Value → Shared → Prop} (S : ZipSep2 z TI TO i1 i2 fp1 fp2) (D1 : Draws prog w A.in1 i1 fp1 n1 P1 St1) (D2 : Draws prog w A.in1 i2 fp2 n2 P2 St2) (hez : e ≠ z) (heO : e ≠ TO) (he1 : e ∉ fp1) (he2 : e ∉ fp2)
    (he : IsEnum s.heap e z c old) (hzz : ZZ s.heap z TI TO) (hTI : IsTupOf2 s.heap TI (.ref i1) (.ref i2)) (hTO : IsTupOf2 s.heap TO a1 a2) (st1 : St1 i s.heap) (st2 : St2 i s.heap) (hlt1 : i < n1) (hlt2 : i < n2)
    (hQ : ∀ x1 x2 g h' tk tk2, P1 i x1 → P2 i x2 → IsTupOf2 g s.heap.objs.size x1 x2 → g.objs.size = s.heap.objs.size + 1 → Zst z TO i1 i2 s.heap g → IsEnumOut h' e z (c + 1) (.ref s.heap.objs.size) (s.heap.objs.size + 1) →
      ZZ h' z TI TO → (∃ b1 b2, IsTupOf2 h' TO b1 b2) → St1 (i + 1) h' → St2 (i + 1) h' → h'.get? (s.heap.objs.size + 1) = some { cls := .type "tuple", data := .seq #[.int c tk, .ref s.heap.objs.size] } →
      (∀ b o, b ≠ e → g.get? b = some o → h'.get? b = some o) → Q (.ref (s.heap.objs.size + 1)) { s with heap := h', toks := tk2 }) :
    wpAny (model prog w) A (Builtin.«enumerate.__next__» ⟨[.ref e], []⟩) (fun fin s' => ∃ v, fin = .done (.ret v) ∧ Q v s') E s := by
  obtain ⟨hp, g, d, tk₀, os⟩ := s
  show wpAny _ _ (field (.ref e) 2 >>= _) _ _ _
  refine wpAny_bind (wpAny_field he rfl (x := .ref z) rfl ?_)
  have hei1 : e ≠ i1 := fun q => he1 (q ▸ S.mem1)
  have hei2 : e ≠ i2 := fun q => he2 (q ▸ S.mem2)
  have hel : e < hp.objs.size := Heap.lt_size he
  refine wpAny_bind (zo_item S D1 D2 hzz hTI hTO st1 st2 hlt1 hlt2 fun x1 x2 h₁ tk hP1 hP2 zz₁ hTO₁ s1₁ s2₁ hT₁ hz₁ hk₁ => ?_)
  replace hT₁ : IsTupOf2 h₁ hp.objs.size x1 x2 := hT₁
  replace hz₁ : h₁.objs.size = hp.objs.size + 1 := hz₁
  replace hk₁ : Zst z TO i1 i2 hp h₁ := hk₁
  show wpAny _ _ _ _ _ ⟨h₁, g, d, tk, os⟩
  have he₁ : IsEnum h₁ e z c old := hk₁ _ _ hez heO hei1 hei2 he
  show wpAny _ _ (field (.ref e) 3 >>= _) _ _ ⟨h₁, g, d, tk, os⟩
  refine wpAny_bind (wpAny_field he₁ rfl (x := rawInt c) rfl ?_)
  show wpAny _ _ (field (.ref e) 4 >>= _) _ _ ⟨h₁, g, d, tk, os⟩
  refine wpAny_bind (wpAny_field he₁ rfl (x := .none) rfl ?_)
  show wpAny _ _ (mkInt c >>= _) _ _ ⟨h₁, g, d, tk, os⟩
  refine wpAny_bind (wpAny_mkInt ?_)
  show wpAny _ _ (setField (.ref e) 3 (rawInt (c + 1)) >>= _) _ _ ⟨h₁, g, d, tk + 1, os⟩
  refine wpAny_bind (wpAny_setField_rec he₁ (by simp) fun h₂ he₂ hs₂ => ?_)
  replace hs₂ : Heap.SameBut e h₁ h₂ := hs₂
  replace he₂ : IsEnum h₂ e z (c + 1) old := he₂
  show wpAny _ _ (setField (.ref e) 4 .none >>= _) _ _ ⟨h₂, g, d, tk + 1, os⟩
  refine wpAny_bind (wpAny_setField_rec he₂ (by simp) fun h₃ he₃ hs₃ => ?_)
  replace hs₃ : Heap.SameBut e h₂ h₃ := hs₃
  replace he₃ : IsEnum h₃ e z (c + 1) old := he₃
  show wpAny _ _ (newTuple [.int c tk, .ref hp.objs.size] >>= _) _ _ ⟨h₃, g, d, tk + 1, os⟩
  refine wpAny_bind (wpAny_newTuple ?_)
  have hsz : h₃.objs.size = hp.objs.size + 1 := by rw [hs₃.1, hs₂.1, hz₁]
  have he₄ : IsEnum (h₃.push { cls := .type "tuple", data := .seq #[.int c tk, .ref hp.objs.size] }) e z (c + 1) old := Heap.get?_push_of_some _ he₃
  have ht₄ : (h₃.push { cls := .type "tuple", data := .seq #[.int c tk, .ref hp.objs.size] }).get? (hp.objs.size + 1) = some { cls := .type "tuple", data := .seq #[.int c tk, .ref hp.objs.size] } := by
    rw [← hsz]; exact Heap.get?_push_size _ rfl
  have hk₄ : ∀ b o, b ≠ e → h₁.get? b = some o → (h₃.push { cls := .type "tuple", data := .seq #[.int c tk, .ref hp.objs.size] }).get? b = some o := fun b o hb q =>
    Heap.get?_push_of_some _ (hs₃.extBut b o hb (hs₂.extBut b o hb q))
  show wpAny _ _ (Builtin.SmallTypes.ownedTupleIsFree (.ref e) >>= _) _ _ ⟨h₃.push { cls := .type "tuple", data := .seq #[.int c tk, .ref hp.objs.size] }, g, d, tk + 1, os⟩
  generalize h₃.push { cls := .type "tuple", data := .seq #[.int c tk, .ref hp.objs.size] } = h₄ at he₄ ht₄ hk₄
  rw [hsz]
  clear he₃ hs₃ he₂ hs₂ he₁ hsz h₃ h₂
  refine wpAny_bind ?_
  unfold Builtin.SmallTypes.ownedTupleIsFree
  refine wpAny_bind (wpAny_field he₄ rfl (x := .none) rfl (wpAny_pure ?_))
  simp only [if_true]
  refine wpAny_bind (wpAny_rule ?_)
  refine wpAny_bind (wpAny_field he₄ rfl (x := old) rfl ?_)
  refine wpAny_bind (wpAny_setField_rec he₄ (by simp) fun h₅ he₅ hs₅ => ?_)
  replace hs₅ : Heap.SameBut e h₄ h₅ := hs₅
  replace he₅ : IsEnum h₅ e z (c + 1) (.ref hp.objs.size) := he₅
  show wpAny _ _ (Builtin.SmallTypes.ownedTupleHandOut (.ref e) (.ref (hp.objs.size + 1)) >>= _) _ _ ⟨h₅, g, d, tk + 1, os⟩
  refine wpAny_bind ?_
  unfold Builtin.SmallTypes.ownedTupleHandOut
  refine wpAny_bind (wpAny_setField_rec he₅ (by simp) fun h₆ he₆ hs₆ => ?_)
  replace hs₆ : Heap.SameBut e h₅ h₆ := hs₆
  replace he₆ : IsEnumOut h₆ e z (c + 1) (.ref hp.objs.size) (hp.objs.size + 1) := he₆
  refine wpAny_setField_rec he₆ (by simp) fun h₇ he₇ hs₇ => ?_
  replace hs₇ : Heap.SameBut e h₆ h₇ := hs₇
  replace he₇ : IsEnumOut h₇ e z (c + 1) (.ref hp.objs.size) (hp.objs.size + 1) := he₇
  have up : ∀ b o, b ≠ e → h₄.get? b = some o → h₇.get? b = some o := fun b o hb q => hs₇.extBut b o hb (hs₆.extBut b o hb (hs₅.extBut b o hb q))
  have up1 : ∀ b o, b ≠ e → h₁.get? b = some o → h₇.get? b = some o := fun b o hb q => up b o hb (hk₄ b o hb q)
  have nN : hp.objs.size + 1 ≠ e := Nat.ne_of_gt (Nat.lt_succ_of_lt hel)
  obtain ⟨b1, b2, hTO₁⟩ := hTO₁
  exact wpAny_bind (wpAny_letGo (wpAny_pure ⟨_, rfl, hQ x1 x2 h₁ h₇ tk (tk + 1) hP1 hP2 hT₁ hz₁ hk₁ he₇ (zz₁.at fun o => up1 _ o hez.symm) ⟨b1, b2, up1 _ _ heO.symm hTO₁⟩
    (D1.frame _ _ _ s1₁ fun b hb o q => up1 b o (fun x => he1 (x ▸ hb)) q) (D2.frame _ _ _ s2₁ fun b hb o q => up1 b o (fun x => he2 (x ▸ hb)) q) (up _ _ nN ht₄) up1⟩))
theorem en_item {Q : Option Value → Shared → Prop} (S : ZipSep2 z TI TO i1 i2 fp1 fp2) (D1 : Draws prog w A.in1.in1 i1 fp1 n1 P1 St1) (D2 : Draws prog w A.in1.in1 i2 fp2 n2 P2 St2) (hez : e ≠ z) (heO : e ≠ TO) (he1 : e ∉ fp1) (he2 : e ∉ fp2)
    (he : IsEnum s.heap e z c old) (hzz : ZZ s.heap z TI TO) (hTI : IsTupOf2 s.heap TI (.ref i1) (.ref i2)) (hTO : IsTupOf2 s.heap TO a1 a2) (st1 : St1 i s.heap) (st2 : St2 i s.heap) (hlt1 : i < n1) (hlt2 : i < n2)
    (hQ : ∀ x1 x2 g h' tk tk2, P1 i x1 → P2 i x2 → IsTupOf2 g s.heap.objs.size x1 x2 → g.objs.size = s.heap.objs.size + 1 → Zst z TO i1 i2 s.heap g → IsEnumOut h' e z (c + 1) (.ref s.heap.objs.size) (s.heap.objs.size + 1) →
      ZZ h' z TI TO → (∃ b1 b2, IsTupOf2 h' TO b1 b2) → St1 (i + 1) h' → St2 (i + 1) h' → h'.get? (s.heap.objs.size + 1) = some { cls := .type "tuple", data := .seq #[.int c tk, .ref s.heap.objs.size] } →
      (∀ b o, b ≠ e → g.get? b = some o → h'.get? b = some o) → Q (some (.ref (s.heap.objs.size + 1))) { s with heap := h', toks := tk2 }) :
    wpAny (model prog w) A (pyNext (.ref e)) Q E s := by
  have hT : s.TypeIs (.ref e) "enumerate" := ⟨_, he, rfl⟩
  unfold pyNext
  exact wpAny_bind (wpAny_attempt (wpAny_callSpecial?_slot (name := Str.ofString "__next__") hT F.slot_enumerate_next
    (wpAny_call_entry F.slot_enumerate_next hT F.entry_enumerate_next
      (ez_item S D1 D2 hez heO he1 he2 he hzz hTI hTO st1 st2 hlt1 hlt2 fun x1 x2 g h' tk tk2 q1 q2 q3 q4 q5 q6 q7 q8 q9 q10 q11 q12 => wpAny_pure (hQ x1 x2 g h' tk tk2 q1 q2 q3 q4 q5 q6 q7 q8 q9 q10 q11 q12)) (F.args_enumerate_next_1 _))))
theorem en_end {Q : Option Value → Shared → Prop} (S : ZipSep2 z TI TO i1 i2 fp1 fp2) (D1 : Draws prog w A.in1.in1 i1 fp1 n1 P1 St1) (D2 : Draws prog w A.in1.in1 i2 fp2 n2 P2 St2)
    (he : IsEnum s.heap e z c old) (hzz : ZZ s.heap z TI TO) (hTI : IsTupOf2 s.heap TI (.ref i1) (.ref i2)) (hTO : IsTupOf2 s.heap TO a1 a2) (st1 : St1 i s.heap) (st2 : St2 i s.heap) (hle1 : i ≤ n1) (hle2 : i ≤ n2) (hend : i = n1 ∨ i = n2)
    (hQ : ∀ h' tk, Zst z TO i1 i2 s.heap h' → Q none { s with heap := h', toks := tk }) :
    wpAny (model prog w) A (pyNext (.ref e)) Q E s := by
  have hT : s.TypeIs (.ref e) "enumerate" := ⟨_, he, rfl⟩
  unfold pyNext
  refine wpAny_bind (wpAny_attempt (wpAny_callSpecial?_slot (name := Str.ofString "__next__") hT F.slot_enumerate_next
    (wpAny_call_entry F.slot_enumerate_next hT F.entry_enumerate_next ?_ (F.args_enumerate_next_1 _))))
  show wpAny _ _ (field (.ref e) 2 >>= _) _ _ _
  refine wpAny_bind (wpAny_field he rfl (x := .ref z) rfl ?_)
  refine wpAny_bind (zo_end S D1 D2 hzz hTI hTO st1 st2 hle1 hle2 hend fun h' tk x he' hx' => ?_)
  obtain ⟨o, ho, hc⟩ := hx'
  refine wpAny_bind (wpAny_isInstance (T := "StopIteration") (b := true) ⟨o, ho, hc⟩ isSubtype_stop ?_)
  exact wpAny_pure (hQ _ _ he')
end
/-- the walk over enumerate(zip(a, b)) -/
def ItEZ (K : PySem.W.Frag) (k1 k2 : Bool) (a b : Addr) : It :=
  ⟨fun i H => ∃ (xs ys : List V) (x y : V), SqK K H k1 a xs ∧ SqK K H k2 b ys ∧ xs[i]? = some x ∧ ys[i]? = some y,
    fun i H v H' => ∃ N T x y, v = .ref T ∧ H N = none ∧ upd H N (.tup [x, y]) T = none ∧ H' = upd (upd H N (.tup [x, y])) T (.tup [.int (i : Nat), .ref N]) ∧ (∀ xs, SqK K H k1 a xs → xs[i]? = some x) ∧ ∀ ys, SqK K H k2 b ys → ys[i]? = some y,
    fun i H => ∃ xs ys : List V, SqK K H k1 a xs ∧ SqK K H k2 b ys ∧ min xs.length ys.length = i⟩
theorem turn_ez {P : Program} {w : World} {K : PySem.W.Frag} {elts : List Expr} {kk : Nat} {tpos : Pos} {k1 k2 : Bool} {a b e z TI TO i1 i2 : Addr} (S : ZipSep2 z TI TO i1 i2 [i1, a] [i2, b]) (h1 : a ≠ i1) (h2 : b ≠ i2)
    (hez : e ≠ z) (heI : e ≠ TI) (heO : e ≠ TO) (he1 : e ∉ [i1, a]) (he2 : e ∉ [i2, b]) :
    Turn P w K (.Tuple elts kk tpos) (ItEZ K k1 k2 a b) [e, z, TI, TO, i1, i2] e
      (fun i h => (∃ old, IsEnum h e z ((i : Nat) : Int) old) ∧ ZZ h z TI TO ∧ IsTupOf2 h TI (.ref i1) (.ref i2) ∧ (∃ x y, IsTupOf2 h TO x y) ∧ SIt k1 h i1 a i ∧ SIt k2 h i2 b i) where
  mem := by simp
  obj := fun i h st c hc => by
    obtain ⟨⟨old, he⟩, ⟨f0, f, _, hz⟩, hTI, ⟨x, y, hTO⟩, s1, s2⟩ := st
    have e' : c = e ∨ c = z ∨ c = TI ∨ c = TO ∨ c = i1 ∨ c = i2 := by simpa using hc
    rcases e' with q | q | q | q | q | q
    · rw [q]; exact ⟨_, he, fun v q => nomatch q⟩
    · rw [q]; exact ⟨_, hz, fun v q => nomatch q⟩
    · rw [q]; exact ⟨_, hTI, fun v q => nomatch q⟩
    · rw [q]; exact ⟨_, hTO, fun v q => nomatch q⟩
    · rw [q]; exact s1.ob
    · rw [q]; exact s2.ob
  keep := fun i h h' st k => by
    obtain ⟨⟨old, he⟩, hz, hTI, ⟨x, y, hTO⟩, s1, s2⟩ := st
    exact ⟨⟨old, k e (by simp) _ he⟩, hz.at fun o => k z (by simp) o, k TI (by simp) _ hTI, ⟨x, y, k TO (by simp) _ hTO⟩, s1.at fun o q => k i1 (by simp) o q, s2.at fun o q => k i2 (by simp) o q⟩
  item := by
    intro X hP hw hK hc i pins s σ H E I hf st hg
    subst hP hw hK
    obtain ⟨⟨old, he⟩, hz, hTI, ⟨x0, y0, hTO⟩, s1, s2⟩ := st
    obtain ⟨xs, ys, x, y, hqx, hqy, hx, hy⟩ := hg
    obtain ⟨its, rv, p⟩ := Inv.seqK I hqx
    obtain ⟨its2, rv2, p2⟩ := Inv.seqK I hqy
    obtain ⟨u, hu, ru⟩ := rv.get hx
    obtain ⟨u2, hu2, ru2⟩ := rv2.get hy
    have hl1 : i < its.toArray.size := by
      have := (List.getElem?_eq_some_iff.mp hu).1
      simpa using this
    have hl2 : i < its2.toArray.size := by
      have := (List.getElem?_eq_some_iff.mp hu2).1
      simpa using this
    have hin : ∀ c, c ∈ [z, TO, i1, i2] → c ∈ [e, z, TI, TO, i1, i2] := fun c hc => by
      have : c = z ∨ c = TO ∨ c = i1 ∨ c = i2 := by simpa using hc
      rcases this with q | q | q | q <;> simp [q]
    have fresh : ∀ c ∈ [e, z, TI, TO, i1, i2], c < s.heap.objs.size := fun c hcm => by
      have e' : c = e ∨ c = z ∨ c = TI ∨ c = TO ∨ c = i1 ∨ c = i2 := by simpa using hcm
      rcases e' with q | q | q | q | q | q
      · rw [q]; exact Heap.lt_size he
      · rw [q]; exact hz.lt
      · rw [q]; exact Heap.lt_size hTI
      · rw [q]; exact Heap.lt_size hTO
      · rw [q]; obtain ⟨_, e1, _⟩ := s1.ob; exact Heap.lt_size e1
      · rw [q]; obtain ⟨_, e2, _⟩ := s2.ob; exact Heap.lt_size e2
    have hnd : X.A.in1.in1.handled = none := I.ok.hd hc
    refine en_item S (drawS (A := X.A.in1.in1) k1 hnd i1 a h1 its.toArray) (drawS (A := X.A.in1.in1) k2 hnd i2 b h2 its2.toArray) hez heO he1 he2 he hz hTI hTO ⟨s1, p⟩ ⟨s2, p2⟩ hl1 hl2 fun y1 y2 g h' tk tk2 hP1 hP2 hTg hszg hkg heo hz' hTO' st1 st2 hTe hk' => ⟨_, rfl, ?_⟩
    have e1 : its[i]? = some y1 := by simpa using hP1
    have e2 : its2[i]? = some y2 := by simpa using hP2
    rw [hu] at e1
    rw [hu2] at e2
    cases e1
    cases e2
    have elt : e < s.heap.objs.size := Heap.lt_size he
    have nN : s.heap.objs.size ≠ e := Nat.ne_of_gt elt
    have nN1 : s.heap.objs.size + 1 ≠ e := Nat.ne_of_gt (Nat.lt_succ_of_lt elt)
    obtain ⟨b1, b2, hTO'⟩ := hTO'
    have heI' : IsTupOf2 h' TI (.ref i1) (.ref i2) := hk' _ _ heI.symm (hkg _ _ S.TIz S.TITO S.TIi1 S.TIi2 hTI)
    refine wpAny_letOwnedTupleGo_enum heo fun h'' he'' hs'' => ?_
    replace hs'' : Heap.SameBut e h' h'' := hs''
    have up : ∀ c o, c ≠ e → h'.get? c = some o → h''.get? c = some o := fun c o n q => hs''.extBut _ _ n q
    have upg : ∀ c o, c ≠ e → g.get? c = some o → h''.get? c = some o := fun c o n q => up c o n (hk' c o n q)
    -- the pair
    have I1 : Inv X pins σ (upd H s.heap.objs.size (.tup [x, y])) { s with heap := g, toks := s.toks } :=
      I.turnedNew (t' := s.toks) (ch := [e, z, TI, TO, i1, i2]) (fun c o hb q => hkg c o (fun m => hb (by simp [m])) (fun m => hb (by simp [m])) (fun m => hb (by simp [m])) (fun m => hb (by simp [m])) q) hf (Nat.le_refl _)
        ⟨by show 2 ≤ sizeLine; decide, [u, u2], .cons ru (.cons ru2 .nil), ⟨_, hTg, rfl, _, rfl⟩⟩
    have hf1 : ∀ c ∈ [e, z, TI, TO, i1, i2], FpOk X pins (upd H s.heap.objs.size (.tup [x, y])) c := fun c hcm => by
      obtain ⟨q1, q2⟩ := hf c hcm
      exact ⟨by rw [upd_ne (Nat.ne_of_lt (fresh c hcm))]; exact q1, q2⟩
    have nT : upd H s.heap.objs.size (.tup [x, y]) (s.heap.objs.size + 1) = none := I1.hok.fresh (by show g.objs.size ≤ _; rw [hszg]; exact Nat.le_refl _)
    have hT2 : h''.get? (s.heap.objs.size + 1) = some { cls := .type "tuple", data := .seq #[.int ((i : Nat) : Int) tk, .ref s.heap.objs.size] } := up _ _ nN1 hTe
    have new2 : ObjOk X.prog X.w (upd (upd H s.heap.objs.size (.tup [x, y])) (s.heap.objs.size + 1) (.tup [.int (i : Nat), .ref s.heap.objs.size])) h'' (s.heap.objs.size + 1) (.tup [.int (i : Nat), .ref s.heap.objs.size]) :=
      ⟨by show 2 ≤ sizeLine; decide, [.int (i : Nat) tk, .ref s.heap.objs.size], .cons ⟨_, rfl⟩ (.cons (show RelV (.ref s.heap.objs.size) (.ref s.heap.objs.size) from rfl) .nil), ⟨_, hT2, rfl, _, rfl⟩⟩
    have I2 : Inv X pins σ (upd (upd H s.heap.objs.size (.tup [x, y])) (s.heap.objs.size + 1) (.tup [.int (i : Nat), .ref s.heap.objs.size])) { s with heap := h'', toks := tk2 } :=
      Inv.turnedNew (s := { s with heap := g, toks := s.toks }) (t' := tk2) (ch := [e, z, TI, TO, i1, i2]) I1 (fun c o hb q => upg c o (fun m => hb (by simp [m])) q) hf1 (by show g.objs.size ≤ _; rw [hszg]; exact Nat.le_refl _) new2
    refine ⟨.ref (s.heap.objs.size + 1), _, I2, rfl, ⟨s.heap.objs.size, s.heap.objs.size + 1, x, y, rfl, I.hok.fresh (Nat.le_refl _), nT, rfl, fun l hl => by rw [Inv.seqK_inj I hl hqx]; exact hx, fun l hl => by rw [Inv.seqK_inj I hl hqy]; exact hy⟩,
      ⟨⟨.ref s.heap.objs.size, ?_⟩, hz'.at fun o => up _ o hez.symm, up _ _ heI.symm heI', ⟨b1, b2, up _ _ heO.symm hTO'⟩, ?_, ?_⟩, fun c hcm => ?_⟩
    · have : ((i + 1 : Nat) : Int) = (i : Int) + 1 := by omega
      rw [this]
      exact he''
    · exact st1.1.at fun o q => up _ o (fun m => he1 (by simp [m])) q
    · exact st2.1.at fun o q => up _ o (fun m => he2 (by simp [m])) q
    · rw [upd_ne (Nat.ne_of_lt (Nat.lt_succ_of_lt (fresh c hcm))), upd_ne (Nat.ne_of_lt (fresh c hcm))]
      exact (hf c hcm).1
  done := by
    intro X hP hw hK hc i pins s σ H E I hf st hg
    subst hP hw hK
    obtain ⟨⟨old, he⟩, hz, hTI, ⟨x0, y0, hTO⟩, s1, s2⟩ := st
    obtain ⟨xs, ys, hqx, hqy, hend⟩ := hg
    obtain ⟨its, rv, p⟩ := Inv.seqK I hqx
    obtain ⟨its2, rv2, p2⟩ := Inv.seqK I hqy
    have l1 := rv.length
    have l2 := rv2.length
    have hnd : X.A.in1.in1.handled = none := I.ok.hd hc
    refine en_end S (drawS (A := X.A.in1.in1) k1 hnd i1 a h1 its.toArray) (drawS (A := X.A.in1.in1) k2 hnd i2 b h2 its2.toArray) he hz hTI hTO ⟨s1, p⟩ ⟨s2, p2⟩ (by simp only [List.size_toArray]; omega) (by simp only [List.size_toArray]; omega) (by simp only [List.size_toArray]; omega) fun h' tk hk =>
      ⟨rfl, I.turnedL (t' := tk) (ch := [e, z, TI, TO, i1, i2]) (fun c o hb q => hk c o (fun m => hb (by simp [m])) (fun m => hb (by simp [m])) (fun m => hb (by simp [m])) (fun m => hb (by simp [m])) q) hf⟩
  self := fun A i s Q E st h => let ⟨⟨_, he⟩, _⟩ := st; wpAny_pyIter_enum he h
end BD
namespace BD
open PySem PySem.Spec PyProof.Rows L2
open PySem (sizeLine_eq)
open Sem (wp)
theorem meets_enumZ {z TI TO : Addr} :
    Meets (Builtin.«enumerate.__new__» ⟨[.type "enumerate", .ref z], []⟩) (fun _ R s => IsZip s.heap z TI TO .none ∧
      R (.ok (.ret (.ref s.heap.objs.size))) { s with heap := s.heap.push { cls := .type "enumerate", data := .fields #[.none, .bool false, .ref z, rawInt 0, .none, .none] } }) :=
  .of_wp fun prog w A R s h => by
    obtain ⟨hp, g, d, tk, os⟩ := s; obtain ⟨h1, h⟩ := h
    have hsub := sub_enumerate
    have q1 : ∀ {A' : Around} {E : Value → Shared → Prop} {Q : Value → Shared → Prop}, Q (.ref z) ⟨hp, g, d, tk, os⟩ → wpAny (model prog w) A' (pyIter (.ref z)) Q E ⟨hp, g, d, tk, os⟩ :=
      fun q => wpAny_pyIter_zip h1 q
    wp_walk using q1
    refine wpAny_stack_any fun st => wpAny_pure ?_
    split
    · rename_i c _ _ _ _ _
      cases (c == Value.type "enumerate")
      · wp_walk using q1
        exact ⟨_, rfl, h⟩
      · wp_walk using q1
        exact ⟨_, rfl, h⟩
    · wp_walk using q1
      exact ⟨_, rfl, h⟩
section
variable {prog : Program} {w : World} {A : Around} {E : Value → Shared → Prop} {s : Shared}
theorem enumZ_begins {z TI TO : Addr} {Q : Value → Shared → Prop} (h1 : IsZip s.heap z TI TO .none)
    (h : ∀ h', IsEnum h' s.heap.objs.size z 0 .none → h'.objs.size = s.heap.objs.size + 1 →
      (∀ b o, s.heap.get? b = some o → h'.get? b = some o) → Q (.ref s.heap.objs.size) { s with heap := h' }) :
    wpAny (model prog w) A (call (.type "enumerate") [.ref z]) Q E s := by
  refine callType_new F.called_enumerate (by decide) (F.typeCall_enumerate_1 _) (F.newCall_enumerate_1 _) (fun obj => F.args_object_init_2 obj _) F.entry_enumerate_new
    meets_enumZ ⟨h1, ?_⟩
  have he : IsEnum (s.heap.push { cls := .type "enumerate", data := .fields #[.none, .bool false, .ref z, rawInt 0, .none, .none] }) s.heap.objs.size z 0 .none := Heap.get?_push_size _ rfl
  exact ⟨⟨_, he, rfl⟩, h _ he (Heap.size_push ..) fun b o x => Heap.get?_push_of_some _ x⟩
end
def iEZS (K : PySem.W.Frag) (ta : TA) : TI := fun σ H R => ta σ H fun vs H1 => ∃ a b k1 k2, vs = [.ref a, .ref b] ∧ (∃ xs, SqK K H1 k1 a xs) ∧ (∃ ys, SqK K H1 k2 b ys) ∧ R (ItEZ K k1 k2 a b) H1
theorem ltA {a n : Nat} (k : Nat) (h : a < n) : n + k ≠ a := by omega
theorem ltB {n i j : Nat} (h : i ≠ j) : n + i ≠ n + j := by omega
theorem ltC {n i : Nat} (h : i ≠ 0) : n + i ≠ n := by omega
theorem pi_enz {X : Cx} {e e2 : Expr} {ta : TA} {p p2 q pos tpos : Pos} {elts : List Expr} {kk : Nat} (hg1 : Gl X "enumerate") (hm1 : X.mg "enumerate" = none) (hg : Gl X "zip") (hm : X.mg "zip" = none) (ha : PA X [e, e2] ta)
    (hs : starEach [e, e2] X.env = (false, eval e X.env) :: starEach [e2] X.env := by rfl) (hpl : (backTo q (starEach [e2] X.env)).any (·.1) = false := by rfl) :
    PI X (.Tuple elts kk tpos) (.Call (.Name "enumerate" p) [.Call (.Name "zip" p2) [e, e2] [] q] [] pos) (iEZS X.K ta) := by
  refine ⟨fun pins s σ H R I h => ?_⟩
  refine Call_ (ld_blt I hg1 hm1 boot_enumerate (PyProof.Rows.callWith_type1 (PyProof.Rows.args_cons ?_ rfl) rfl rfl))
  refine Call_ (ld_blt I hg hm PyProof.Rows.boot_zip (PyProof.Rows.callWith_type1 (thn (ha.run q pins s σ H _ I h) fun us s1 ⟨vs, H1, I1, r1, q1⟩ => ?_) hs hpl))
  obtain ⟨a, b, k1, k2, ex, ⟨xs, hqx⟩, ⟨ys, hqy⟩, q⟩ := q1
  subst ex
  cases r1 with
  | cons r rr =>
    cases rr with
    | cons r' rr =>
      cases rr
      cases r
      cases r'
      obtain ⟨its, rv, p1⟩ := Inv.seqK I1 hqx
      obtain ⟨its2, rv2, p2⟩ := Inv.seqK I1 hqy
      have la : a < s1.heap.objs.size := p1.lt
      have lb : b < s1.heap.objs.size := p2.lt
      refine zip_begins2 (begS k1 a its.toArray) (begS k2 b its2.toArray) p1 p2 fun h' hz hTI hTO h1 h2 hsz hk => PyProof.Rows.args_nil ?_
      refine enumZ_begins (s := { s1 with heap := h' }) hz fun h'' he hsz2 hk2 => wpAny_pyIter_enum he ?_
      replace he : IsEnum h'' h'.objs.size (s1.heap.objs.size + 4) 0 .none := he
      replace hk2 : ∀ b o, h'.get? b = some o → h''.get? b = some o := hk2
      have kk : ∀ b o, s1.heap.get? b = some o → h''.get? b = some o := fun b o x => hk2 _ _ (hk b o x)
      have I2 : Inv X pins σ H1 { s1 with heap := h'' } := I1.kept (t' := s1.toks) kk
      have hS : h'.objs.size = s1.heap.objs.size + 5 := hsz
      refine ⟨h'.objs.size, [h'.objs.size, s1.heap.objs.size + 4, s1.heap.objs.size + 2, s1.heap.objs.size + 3, s1.heap.objs.size, s1.heap.objs.size + 1], _, _, H1, rfl, I2,
        turn_ez (zip_sep2 (fp1 := [a]) (fp2 := [b]) (by simpa using la) (by simpa using lb)) (Nat.ne_of_lt la) (Nat.ne_of_lt (Nat.lt_succ_of_lt lb)) (by rw [hS]; exact ltB (by decide)) (by rw [hS]; exact ltB (by decide)) (by rw [hS]; exact ltB (by decide)) ?_ ?_,
        ⟨⟨.none, he⟩, ⟨.none, false, .inl rfl, hk2 _ _ hz⟩, hk2 _ _ hTI, ⟨_, _, hk2 _ _ hTO⟩, (SIt.zero h1).at fun o => hk2 _ o, (SIt.zero h2).at fun o => hk2 _ o⟩, fun c hcm => ?_, q⟩
      · intro m
        have m' : h'.objs.size = s1.heap.objs.size ∨ h'.objs.size = a := by simpa using m
        rw [hS] at m'
        rcases m' with m' | m'
        · exact ltC (by decide) m'
        · exact ltA 5 la m'
      · intro m
        have m' : h'.objs.size = s1.heap.objs.size + 1 ∨ h'.objs.size = b := by simpa using m
        rw [hS] at m'
        rcases m' with m' | m'
        · exact ltB (by decide) m'
        · exact ltA 5 lb m'
      · have e' : c = h'.objs.size ∨ c = s1.heap.objs.size + 4 ∨ c = s1.heap.objs.size + 2 ∨ c = s1.heap.objs.size + 3 ∨ c = s1.heap.objs.size ∨ c = s1.heap.objs.size + 1 := by simpa using hcm
        have hle : s1.heap.objs.size ≤ c := by
          rcases e' with z | z | z | z | z | z
          · rw [z, hS]; exact Nat.le_add_right _ _
          · rw [z]; exact Nat.le_add_right _ _
          · rw [z]; exact Nat.le_add_right _ _
          · rw [z]; exact Nat.le_add_right _ _
          · rw [z]; exact Nat.le_refl _
          · rw [z]; exact Nat.le_add_right _ _
        exact I1.fpOk hle (I1.hok.fresh hle)
section
variable {X : Cx} {wx : WXs} {M W W1 W2 U U1 U2 : List Nat} {K : PySem.W.Frag}
def iEz (a c : Ev) : Env → R (List PyData) := fun δ => (a δ).bind fun x δ1 => (c δ1).bind fun y δ2 => match seqD x, seqD y with
  | some xs, some ys => .ok (enumL 0 (zipL xs ys)) δ2
  | _, _ => .bad
theorem pid_enz {e e2 : Expr} {ea eb : Ev} {p p2 q pos tpos : Pos} {elts : List Expr} {kk : Nat} (hm1 : X.mg "enumerate" = none) (hm : X.mg "zip" = none) (ha : PD X wx M W1 U1 e ea) (hb : PD X wx M W2 U2 e2 eb) (hg1 : Gl X "enumerate" := by rfl) (hg : Gl X "zip" := by rfl)
    (h1 : sb U2 M = true := by rfl) (h2 : sb W1 M = true := by rfl) (h3 : dj U2 W1 = true := by rfl)
    (hs1 : starEach [e2] X.env = (false, eval e2 X.env) :: starEach [] X.env := by rfl)
    (hs : starEach [e, e2] X.env = (false, eval e X.env) :: starEach [e2] X.env := by rfl) (hpl : (backTo q (starEach [e2] X.env)).any (·.1) = false := by rfl) :
    PID X wx M (W1 ++ W2) (W1 ++ W2) (U1 ++ U2) (.Tuple elts kk tpos) (.Call (.Name "enumerate" p) [.Call (.Name "zip" p2) [e, e2] [] q] [] pos) (iEz ea eb) := by
  refine pi_imp (pi_enz hg1 hm1 hg hm (pa_cons ha (pa_cons hb pa_nil hs1) hs) hs hpl) fun σ H Q ⟨δ, b, L, fin⟩ => ⟨δ, b, L, ?_⟩
  unfold iEz at fin
  cases e1 : ea δ with
  | bad => rw [e1] at fin; exact fin
  | exc c g x e' => rw [e1] at fin; exact fun cls dd H' L' g' ex => fin cls dd H' L' (g'.mono inl_app) ex
  | ok d δ1 =>
    rw [e1] at fin
    intro v H1 p
    refine ⟨δ1, b, p.loc, ?_⟩
    cases e2 : eb δ1 with
    | bad => simp only [R.bind, e2] at fin; exact fin
    | exc c g x e' => simp only [R.bind, e2] at fin; exact fun cls dd H' L' g' ex => fin cls dd H' L' (p.gr.trans g' inl_app inr_app) ex
    | ok d2 δ2 =>
      simp only [R.bind, e2] at fin
      intro v2 H2 p2
      have r1 := (p.rp.keep p.loc p2.gr h1 h2 h3).wide (W := W1 ++ W2) inl_app
      have r2 := p2.rp.wide (W := W1 ++ W2) inr_app
      cases e3 : seqD d with
      | none => rw [e3] at fin; exact fin.elim
      | some xs =>
        rw [e3] at fin
        cases e4 : seqD d2 with
        | none => rw [e4] at fin; exact fin.elim
        | some ys =>
          rw [e4] at fin
          obtain ⟨a, k1, us, rfl, rA, hq, hk⟩ := sqK_of r1 e3
          obtain ⟨a2, k2, ws, rfl, rB, hq2, hk2⟩ := sqK_of r2 e4
          have hll : (enumL 0 (zipL xs ys)).length = min xs.length ys.length := by rw [enumL_len, zipL_len]
          refine ⟨a, a2, k1, k2, rfl, ⟨us, hq⟩, ⟨ws, hq2⟩, fin _ H2 p2.loc (p.gr.trans p2.gr inl_app inr_app) ⟨fun i H3 k hi => ?_, fun H3 k => ⟨us, ws, hk _ k, hk2 _ k, by rw [rA.length, rB.length, hll]⟩, fun i H3 x H4 k hi y => ?_⟩⟩
          · rw [hll] at hi
            have hi1 : i < us.length := by rw [rA.length]; omega
            have hi2 : i < ws.length := by rw [rB.length]; omega
            exact ⟨us, ws, us[i], ws[i], hk _ k, hk2 _ k, by simp [hi1], by simp [hi2]⟩
          · obtain ⟨N, T, x1, x2, rfl, nN, nT, rfl, f1, f2⟩ := y
            obtain ⟨da, g1, g2⟩ := rA.get (f1 us (hk _ k))
            obtain ⟨db, g3, g4⟩ := rB.get (f2 ws (hk2 _ k))
            have ex : Ext H3 (upd (upd H3 N (.tup [x1, x2])) T (.tup [.int (i : Nat), .ref N])) := (Ext.upd nN).trans (Ext.upd nT)
            have hz := enumL_get (zipL xs ys) 0 i _ (zipL_get xs ys i da db g1 g3)
            have nH3 : H3 T = none := by
              cases e : H3 T with
              | none => rfl
              | some o => rw [Ext.upd nN T o e] at nT; cases nT
            rw [Nat.zero_add] at hz
            refine ⟨ex, _, hz, .tup (.inl (.inl upd_same)) (.cons (.int _) (.cons (.tup (.inl (.inl (Ext.upd nT N _ upd_same))) (.cons ?_ (.cons ?_ .nil))) .nil))⟩
            · exact (g2.trk.mono (fun _ h => h) (k.sub fun _ h => h.1)).ext (fun _ h => .inl h) ex
            · exact (g4.trk.mono (fun _ h => h) (k.sub fun _ h => h.1)).ext (fun _ h => .inl h) ex
end
@[simp] theorem vEz (a c : Ev) (δ : Env) : iEz a c δ = (a δ).bind fun x δ1 => (c δ1).bind fun y δ2 => match seqD x, seqD y with | some xs, some ys => .ok (enumL 0 (zipL xs ys)) δ2 | _, _ => .bad := rfl
end BD
/-! an own exception class over a built-in one (LookupError, RuntimeError, ValueError, OverflowError), its __init__ walked as a def -/
namespace BD
open PySem PySem.Spec PyProof.Rows L2
open PySem (sizeLine_eq)
/-- what is told of the built-in class below -/
structure Bse (B newId initId : String) (bmB : List Value) : Prop where
  F : ExcBaseFacts B newId initId bmB
  S : StoreFacts B bmB "object.__setattr__" "object"
  ty : typeOf (.type B) = pure (.type "type")
  ob : bmB.contains (.type "object") = true
  ne : bmB.isEmpty = false
  bt : bootBuiltins (.ofString B) = some (.type B)
  st : Manifest.isStub B = false
  hd : PySem.W.handedIn (.builtin initId) = true
  ty_ : ∀ v ∈ bmB, ∃ T, v = .type T
theorem bse_V : Bse "ValueError" "ValueError.__new__" "ValueError.__init__" [.type "ValueError", .type "Exception", .type "BaseException", .type "object"] :=
  ⟨PySem.F.excBase_ValueError, PySem.F.store_ValueError, by kernel_rfl, by decide +kernel, rfl, PyProof.Rows.Boot.«ValueError», by decide +kernel, by decide +kernel, fun v hv => by simp at hv; rcases hv with h | h | h | h <;> exact ⟨_, h⟩⟩
theorem bse_L : Bse "LookupError" "LookupError.__new__" "LookupError.__init__" [.type "LookupError", .type "Exception", .type "BaseException", .type "object"] :=
  ⟨PySem.F.excBase_LookupError, PySem.F.store_LookupError, by kernel_rfl, by decide +kernel, rfl, PyProof.Rows.Boot.«LookupError», by decide +kernel, by decide +kernel, fun v hv => by simp at hv; rcases hv with h | h | h | h <;> exact ⟨_, h⟩⟩
theorem bse_R : Bse "RuntimeError" "RuntimeError.__new__" "RuntimeError.__init__" [.type "RuntimeError", .type "Exception", .type "BaseException", .type "object"] :=
  ⟨PySem.F.excBase_RuntimeError, PySem.F.store_RuntimeError, by kernel_rfl, by decide +kernel, rfl, PyProof.Rows.Boot.«RuntimeError», by decide +kernel, by decide +kernel, fun v hv => by simp at hv; rcases hv with h | h | h | h <;> exact ⟨_, h⟩⟩
theorem bse_O : Bse "OverflowError" "OverflowError.__new__" "OverflowError.__init__" [.type "OverflowError", .type "ArithmeticError", .type "Exception", .type "BaseException", .type "object"] :=
  ⟨PySem.F.excBase_OverflowError, PySem.F.store_OverflowError, by kernel_rfl, by decide +kernel, rfl, PyProof.Rows.Boot.«OverflowError», by decide +kernel, by decide +kernel, fun v hv => by simp at hv; rcases hv with h | h | h | h | h <;> exact ⟨_, h⟩⟩
/-- own classes, then the built-in one's mro -/
def refsT (t : List Value) : List Value → Bool
  | .ref _ :: r => refsT t r
  | l => l == t
section
variable {B newId initId : String} {bmB : List Value}
theorem refsT_cases : ∀ l : List Value, refsT bmB l = true → (∃ c r, l = .ref c :: r ∧ refsT bmB r = true) ∨ l = bmB
  | [], e => .inr (beq_iff_eq.mp e)
  | .ref c :: r, e => .inl ⟨c, r, rfl, e⟩
  | .none :: _, e => .inr (beq_iff_eq.mp e)
  | .ellipsis :: _, e => .inr (beq_iff_eq.mp e)
  | .notImplemented :: _, e => .inr (beq_iff_eq.mp e)
  | .bool _ :: _, e => .inr (beq_iff_eq.mp e)
  | .int _ _ :: _, e => .inr (beq_iff_eq.mp e)
  | .float _ _ :: _, e => .inr (beq_iff_eq.mp e)
  | .str _ _ :: _, e => .inr (beq_iff_eq.mp e)
  | .bytes _ _ :: _, e => .inr (beq_iff_eq.mp e)
  | .type _ :: _, e => .inr (beq_iff_eq.mp e)
  | .builtin _ :: _, e => .inr (beq_iff_eq.mp e)
theorem refsT_pass (b : Bse B newId initId bmB) (self : Value) : ∀ l : List Value, refsT bmB l = true → PySem.refuseLoop self "__setattr__" l = pure () := by
  intro l
  induction l with
  | nil =>
    intro e
    rcases refsT_cases [] e with ⟨c, r', q, h⟩ | q
    · cases q
    · rw [q]; exact b.S.passes self
  | cons a r ih =>
    intro e
    rcases refsT_cases (a :: r) e with ⟨c, r', q, h⟩ | q
    · obtain ⟨rfl, rfl⟩ := List.cons.inj q
      rw [refuseLoop_ref]; exact ih h
    · rw [q]; exact b.S.passes self
theorem refsT_contains (X : String) : ∀ l : List Value, refsT bmB l = true → l.contains (.type X) = bmB.contains (.type X) := by
  intro l
  induction l with
  | nil =>
    intro e
    rcases refsT_cases [] e with ⟨c, r', q, h⟩ | q
    · cases q
    · rw [q]
  | cons a r ih =>
    intro e
    rcases refsT_cases (a :: r) e with ⟨c, r', q, h⟩ | q
    · obtain ⟨rfl, rfl⟩ := List.cons.inj q
      rw [List.contains_cons, ih h]; rfl
    · rw [q]
theorem refsT_ne (b : Bse B newId initId bmB) {l : List Value} (e : refsT bmB l = true) : l.isEmpty = false := by
  cases l with
  | nil =>
    rcases refsT_cases [] e with ⟨c, r', q, h⟩ | q
    · cases q
    · rw [q]; exact b.ne
  | cons _ _ => rfl
end
end BD
namespace PySem
namespace BDX
open PySem.W PySem.Calls PyProof.Rows PySem.HandSPX BD
open Builtin Builtin.ObjectAttr
section
variable {prog : Program} {w : World} {A : Around} {E : Value → Shared → Prop} {R : Result → Shared → Prop} {hp : Heap} {g : Array GenState} {d : Drawn} {t : Nat} {os : OsState} {B newId initId : String} {bmB : List Value}
/-- self.name = v on an exception that has no dict yet -/
theorem osaT (b : Bse B newId initId bmB) {K : W.Frag} {name : Str} {tk : Tok} {v : Value} {x C : Addr} {fv : Array Value} {cd : ClassData}
    (X : K.In hp) (hx : hp.get? x = some { cls := .ref C, data := .fields fv }) (hcd : W.clsIn K C = some cd) (hm : refsT bmB cd.mro = true) (hh : cd.hasDict = true) (ha : W.findIn K (.ref C) name = some none)
    (hq : ∀ h' tk' dx, (∀ b o, b ≠ x → hp.get? b = some o → h'.get? b = some o) → hp.objs.size ≤ dx → dx ≠ x → h'.get? x = some { cls := .ref C, dict := some dx, data := .fields fv } →
      h'.Ns1 dx (fun y => if y = name then some v else none) → R (.ok (.ret .none)) ⟨h', g, d, tk', os⟩) :
    codeAny (model prog w) A (.call (.builtin "object.__setattr__") ⟨[.ref x, .str name tk, v], []⟩) R ⟨hp, g, d, t, os⟩ := by
  have I : W.InstAt hp x { cls := .ref C, data := .fields fv } C none := ⟨hx, rfl, rfl, trivial⟩
  have SF := F.store_object
  have ne := refsT_ne b hm
  have hob : cd.mro.contains (.type "object") = true := (refsT_contains "object" _ hm).trans b.ob
  have hxs : x ≠ hp.objs.size := Nat.ne_of_lt (Heap.lt_size hx)
  have sub : W.Looks (model prog w) hp (isInstance (.ref x) (.type "object")) true := I.type.andThen (W.looks_mroIn X (by unfold W.mroIn; rw [hcd, Option.bind_some, if_neg (by rw [ne]; decide), hob]))
  refine codeAny_call_builtin SF.slot.plain SF.entry (@W.check_slot (model prog w) _ _ ⟨hp, g, d, t, os⟩ "object.__setattr__" "object" "__setattr__" (.ref x) [.str name tk, v] [] _ SF.kind SF.split sub (SF.args (.ref x) (.str name tk) v) ?_)
  have hmr : W.Looks (model prog w) hp (mroOf (.ref C)) cd.mro := (W.looks_clsIn X hcd).andThen .now
  have L3 : W.Looks (model prog w) hp (storeTaker? none) none := .now
  have hcls : W.Looks (model prog w) hp (classData C) cd := W.looks_clsIn X hcd
  rw [W.osa_eq, refuse_eq]
  refine wpAny_bind (wpAny_bind (I.type.at (wpAny_bind (hmr.at ?_))))
  rw [refsT_pass b _ _ hm]
  refine wpAny_pure (wpAny_bind (I.type.at (wpAny_bind ((W.looks_findIn X ha).at (wpAny_bind (L3.at ?_))))))
  show wpAny _ _ (storeInOwnDict (.ref x) (.ref C) (.str name tk) name v false) _ _ _
  obtain ⟨nm, bs, mro, ns, qn, hd, sn, sb, ab, col, del⟩ := cd
  dsimp only at hh
  subst hh
  unfold storeInOwnDict ownDictForStores
  repeat (first | with_reducible refine store_in_new ?_ ?_ | with_reducible refine wpAny_loadPart_at hx ?_ | with_reducible refine hcls.at ?_ | wp_step)
  · exact ⟨_, #[], _, (Heap.get?_update_ne _ _ _ _ hxs.symm).trans (Heap.get?_push_at rfl rfl), rfl, fun e he => absurd he (by simp), fun _ => rfl⟩
  · intro h' tk' hn' hs
    have hx₁ : (hp.push { cls := .type "dict", data := .dict #[] }).get? x = some { cls := .ref C, data := .fields fv } := Heap.get?_push_of_some _ hx
    refine hq h' tk' hp.objs.size (fun b o hb ho => ?_) (Nat.le_refl _) hxs.symm ?_ hn'
    · exact (hs.2 b (Nat.ne_of_lt (Heap.lt_size ho))).trans ((Heap.get?_update_ne _ _ _ _ hb).trans (Heap.get?_push_of_some _ ho))
    · exact (hs.2 x hxs).trans (Heap.get?_update_self _ hx₁ rfl)
end
end BDX
end PySem
namespace BD
open PySem PySem.Spec PyProof.Rows L2
open PySem (sizeLine_eq)
/-- what the written part says of the class -/
structure OexT (K : PySem.W.Frag) (B newId : String) (bmB : List Value) (C : Addr) : Prop where
  cls : ∃ nm q N bs bm sn sub ab col dd k0 k1 k2 k3 k5, K.lookup C = some (excClassObj nm q C N bs bm true sn sub ab col dd k0 k1 k2 k3 k5 newId) ∧ refsT bmB bm = true
  sa : PySem.W.findIn K (.ref C) "__setattr__" = some (some (.builtin "object.__setattr__"))
  exC : PySem.W.subIn K (.ref C) (.type "BaseException") = some true
  tyC : PySem.W.typeIn K (.ref C) = some (.type "type")
  kC : PySem.W.keepIn K (.ref C) = true
section
variable {B newId initId : String} {bmB : List Value}
variable {X : Cx} {pins : List (Addr × Obj)} {σ : L2.St} {H : Hp} {s : Shared} {a C dx : Addr} {f : Str} {y : V} {u : Value} {E : Value → Shared → Prop} {A : Around}
/-- self.f = y, the first one -/
theorem ostT (b : Bse B newId initId bmB) (T : OexT X.K B newId bmB C) (I : Inv X pins σ H s) (e : H a = some (exo a C none)) (hno : PySem.W.findIn X.K (.ref C) f = some none) (ry : RelV y u) {Q : Unit → Shared → Prop}
    (h : ∀ dx s', H dx = none → dx ≠ a → Inv X pins σ (upd (upd H dx (exd dx [(f, y)])) a (exo a C (some dx))) s' → Q () s') : wpAny (model X.prog X.w) A (setAttr (.ref a) f u) Q E s := by
  obtain ⟨nm, q, N, bs, bm, sn, sub, ab, col, dd, k0, k1, k2, k3, k5, hC, hbm⟩ := T.cls
  have hcl : PySem.W.clsIn X.K C = some { name := nm, bases := bs, mro := .ref C :: bm, ns := N, qualname := q, hasDict := true, slotNames := sn, subclasses := sub, abstract := ab, collection := col, hasDel := false } := by unfold PySem.W.clsIn; rw [hC] <;> rfl
  obtain ⟨t1, ho⟩ := exo_at I.hok e
  obtain ⟨hp, g, d, t, os⟩ := s
  refine PySem.W.set_plain I.kIn (ox := { cls := .ref C, dict := none, data := .fields #[.ref t1, .none, .none, .none, .bool false, .none] }) (od := none) ⟨ho, rfl, rfl, trivial⟩ T.sa ?_
  refine PySem.BDX.osaT b I.kIn ho hcl (show refsT bmB (.ref C :: bm) = true from hbm) rfl hno (fun h' tk' dx k dn dne hx hn => ?_)
  have hnd : H dx = none := I.hok.fresh dn
  have nd : ∀ {b : Addr} {o : Obj}, hp.get? b = some o → b ≠ dx := fun {b o} q => Nat.ne_of_lt (Nat.lt_of_lt_of_le (Heap.lt_size q) dn)
  have na : ∀ {b : Addr}, H b = none → b ≠ a := fun {b} n z => by
    rw [z, e] at n
    cases n
  have Un1 : Un X.fs [] H (upd (upd H dx (exd dx [(f, y)])) a (exo a C (some dx))) hp h' := {
    keep := fun b o q n _ _ => k b o (na n) q
    slot := fun b o q n _ _ => ⟨o.slots, k b o (na n) q⟩
    free := fun b o q n _ => by rw [upd_ne (na n), upd_ne (nd q)]; exact n
    there := fun b o q _ => by
      by_cases hb : b = a
      · exact ⟨_, by rw [hb]; exact hx⟩
      · exact ⟨o, k b o hb q⟩
    tups := fun b xs q => by rw [upd_ne (at_ne e q exo_tup), upd_ne (ne_of_none q hnd)]; exact q
    frzs := fun b o v q => by rw [upd_ne (at_ne e q exo_frz), upd_ne (ne_of_none q hnd)]; exact q
    tbls := fun b ps q => ⟨#[], by rw [upd_ne (at_ne e q exo_tbl), upd_ne (ne_of_none q hnd), q]; simp⟩ }
  refine h dx _ hnd dne (I.un (t' := tk') Un1 fun b o q => ?_)
  by_cases hb : b = a
  · subst hb
    rw [upd_same] at q
    cases q
    exact exo_ok hx
  · rw [upd_ne hb] at q
    by_cases hd : b = dx
    · subst hd
      rw [upd_same] at q
      cases q
      exact exd_ok hn (relO_put (fs := []) ry fun g => True.intro)
    · rw [upd_ne hd] at q
      exact (I.hok b o q).stay (fun c v hc z => k c v (by
          rcases hc with hc | hc
          · rw [hc]
            exact hb
          · exact at_ne e hc exo_own) z)
        (fun c hc => by rw [upd_ne (at_ne e hc exo_own), upd_ne (ne_of_none hc hnd)]; exact hc) (fun c xs hc => by rw [upd_ne (at_ne e hc exo_tup), upd_ne (ne_of_none hc hnd)]; exact hc)
/-- B.__init__(self, ..): nothing of it is told -/
theorem oinitT {us : List Value} {Q : Value → Shared → Prop} (b : Bse B newId initId bmB) (T : OexT X.K B newId bmB C) (I : Inv X pins σ H s) (e : H a = some (exo a C none)) (hl : us.length ≤ sizeLine) (h : ∀ s', Inv X pins σ H s' → Q .none s') :
    wpAny (model X.prog X.w) A (call (.builtin initId) (.ref a :: us)) Q E s := by
  obtain ⟨nm, q, N, bs, bm, sn, sub, ab, col, dd, k0, k1, k2, k3, k5, hC, hbm⟩ := T.cls
  obtain ⟨t1, ho⟩ := exo_at I.hok e
  obtain ⟨hp, g, d, t, os⟩ := s
  refine wpAny_call (PySem.HandSPX.init_base b.F (fun Y => refsT_contains Y bm hbm) (I.kIn _ _ hC) ho hl fun h' t2 k hx => ?_)
  have J := I.write (t' := t) (x := a) (e := a) (o := exo a C none) (by rw [e]; exact True.intro) (.inl rfl) k ⟨_, hx⟩ (exo_ok hx)
  have eu : upd H a (exo a C none) = H := by
    funext b
    by_cases hb : b = a
    · rw [hb, upd_same, e]
    · rw [upd_ne hb]
  rw [eu] at J
  exact h _ J
end
/-- B.__init__(self, ..) -/
def tBIn (K : PySem.W.Frag) (B newId : String) (bmB : List Value) (ta : TA) : TE := fun σ H Q => ta σ H fun vs H1 => ∃ (a C : Addr) (ws : List V), vs = .ref a :: ws ∧ ws.length ≤ 1000 ∧ OexT K B newId bmB C ∧ H1 a = some (exo a C none) ∧ Q .non H1
/-- self.f = e -/
def tOsT (K : PySem.W.Frag) (B newId : String) (bmB : List Value) (f : Str) (to te : TE) : TS := fun D σ H => te σ H fun y H1 => to σ H1 fun x H2 => ∃ a C : Addr, x = .ref a ∧ OexT K B newId bmB C ∧ PySem.W.findIn K (.ref C) f = some none ∧
  H2 a = some (exo a C none) ∧ ∀ dx, H2 dx = none → dx ≠ a → D.nx σ (upd (upd H2 dx (exd dx [(f, y)])) a (exo a C (some dx)))
section
variable {B newId initId : String} {bmB : List Value}
variable {X : Cx} {o e : Expr} {es : List Expr} {to te : TE} {ta : TA} {f : Str} {p p' p1 p2 pos : Pos}
theorem pe_bInit {pl : Sem Bool} (b : Bse B newId initId bmB) {n : Str} (hn : n = .ofString B) (hg : Gl X n) (hm : X.mg n = none) (hnn : n ≠ "__name__") (hdb : (n == ("__debug__" : Str)) = false) (vV : PySem.W.findCls X.K (.type B) (.type "type") "__init__" = some (.val (.builtin initId))) (ha : PA X (e :: es) ta)
    (hc : eval (.Call (.Attribute (.Name n p1) "__init__" p2) (e :: es) [] pos) X.env = (do
      let ov ← eval (.Name n p1) X.env
      standAt p2.atName
      let (f, first) ← holding [ov] (getMethod ov "__init__" pl)
      callWith pos f first (backTo pos (starEach (e :: es) X.env)) (backToKw pos (keywordEach [] X.env))) := by rfl)
    (he : starEach (e :: es) X.env = (false, eval e X.env) :: starEach es X.env := by rfl) (hpl : (backTo pos (starEach es X.env)).any (·.1) = false := by rfl) :
    PE X (.Call (.Attribute (.Name n p1) "__init__" p2) (e :: es) [] pos) (tBIn X.K B newId bmB ta) := by
  refine ⟨fun pins s σ H Q I h => ?_⟩
  refine PySem.W.methodCall_KW (ld_blt I hg hm (by rw [hn]; exact b.bt) ?_ hnn hdb) hc
  obtain ⟨m, fr⟩ := I.fr
  refine PySem.W.method_type fr I.ok.mod.kin b.ty b.st vV b.hd ?_
  show wpAny _ _ (callWith pos (Value.builtin initId) [] (backTo pos (starEach (e :: es) X.env)) []) _ _ _
  refine PyProof.Rows.callWith_method1 (thn (ha.run pos pins _ σ H _ (I.tok _) h) fun us s1 ⟨vs, H1, I1, r1, a, C, ws, ev, hl, T, ea, q⟩ => ?_) he hpl
  subst ev
  cases r1 with
  | @cons _ u0 _ ur ra rw' =>
    obtain rfl : u0 = Value.ref a := ra
    have hlen : ur.length ≤ sizeLine := by
      rw [← Paired.length rw', sizeLine_eq]
      omega
    exact oinitT b T I1 ea hlen fun s' J => ⟨.non, H1, J, rfl, q⟩
theorem ps_osT (b : Bse B newId initId bmB) (ho : PE X o to) (he : PE X e te) (hs : swapsWith e (some (.Attribute o f p')) pos.line X.env = pure false := by rfl) : PS X (.Assign [.Attribute o f p'] e pos) (tOsT X.K B newId bmB f to te) := by
  refine ⟨fun pins s σ H D I h => ?_⟩
  refine plainObj_wpAny_Assign_Attribute (thn (he.run pins s σ H _ I h) fun v s1 ⟨y, H1, I1, r1, q1⟩ => thn (ho.run pins s1 σ H1 _ I1 q1) fun u s2 ⟨x, H2, I2, r2, a, C, ex, T, hno, ea, q⟩ => ?_) hs
  subst ex
  obtain rfl : u = Value.ref a := r2
  exact ostT b T I2 ea hno r1 fun dx s' n ne J => ⟨σ, _, J, q dx n ne⟩
end
end BD
namespace BD
open PySem PySem.Spec PyProof.Rows L2
open PySem (sizeLine_eq)
/-- what an __init__ keeps: the field stands in the new dict -/
def SpX (K : PySem.W.Frag) (B newId : String) (bmB : List Value) (f : Str) : Sp := fun vs H Q _ => ∃ (a C : Addr) (y : V), vs = [.ref a, y] ∧ OexT K B newId bmB C ∧ PySem.W.findIn K (.ref C) f = some none ∧ H a = some (exo a C none) ∧
  ∀ dx, H dx = none → dx ≠ a → Q .non (upd (upd H dx (exd dx [(f, y)])) a (exo a C (some dx)))
/-- an own class: made with one value, which is its field f -/
structure EC (P : Program) (w : World) (K : PySem.W.Frag) (mg : Str → Option Value) (base : Heap) (k : Nat) (c f : Str) : Prop where
  ex : ∃ (B newId initId : String) (bmB : List Value) (C fI : Addr) (fd : FuncData) (ps : List Str), Bse B newId initId bmB ∧ mg c = some (.ref C) ∧ PySem.W.nsIn K mainGlobals c = some (some (.ref C)) ∧ OexT K B newId bmB C ∧ PySem.W.findIn K (.ref C) f = some none ∧
    PySem.W.findIn K (.ref C) "__init__" = some (some (.ref fI)) ∧ PySem.W.typeIn K (.ref fI) = some (.type "function") ∧ FnG P w K mg base k fI fd ps (SpX K B newId bmB f) ∧ Binds K fd ps []
theorem RoomG.make {k : Nat} {A : Around} (r : RoomG (k + 1) A) (C : Addr) (us : List Value) (kw : List (Str × Value)) : RoomG k (A.under (.builtin "type.__call__" ⟨.ref C :: us, kw⟩)) :=
  ⟨r.rm.make C us kw, by
    have h : (A.under (.builtin "type.__call__" ⟨.ref C :: us, kw⟩)).guards = A.guards := rfl
    rw [h]; exact r.gd⟩
section
variable {X : Cx} {c f : Str} {k : Nat} {e : Expr} {ta : TA} {p pos : Pos}
/-- C(e), for a raise -/
def tMkE (K : PySem.W.Frag) (mg : Str → Option Value) (c f : Str) (ta : TA) : L2.St → Hp → XK → Prop := fun σ H Q => ta σ H fun vs H1 => ∃ y, vs = [y] ∧ ∀ (C d : Addr), mg c = some (.ref C) → PySem.W.nsIn K mainGlobals c = some (some (.ref C)) → H1 d = none → Q (.ref C) (some d) (upd H1 d (.xd [(f, y)]))
theorem pmk_ec (E : EC X.prog X.w X.K X.mg X.base k c f) (hr : RoomG (k + 1) X.A) (hx : Passes (L2.CX X.prog X.w) X (fun _ _ _ => False)) (hg : Gl X c) (ha : PA X [e] ta)
    (hdb : (c == ("__debug__" : Str)) = false := by decide) (he : starEach [e] X.env = (false, eval e X.env) :: starEach [] X.env := by rfl) :
    PMk X (.Call (.Name c p) [e] [] pos) (tMkE X.K X.mg c f ta) := by
  intro pins s σ H Q I h
  obtain ⟨B, newId, initId, bmB, C, fI, fd, ps, b, hm, hns, T, hno, iC, tI, F1, hb⟩ := E.ex
  obtain ⟨nm, q, N, bs, bm, sn, sub, ab, col, dd, k0, k1, k2, k3, k5, hC, hbm⟩ := T.cls
  refine wpAny_Call_Name_kw (ld_glob I hg hm ?_ hdb)
  refine PySem.W.callWith_K (h₀ := X.base) I.ok.mod.kin T.kC (thn (ha.run pos pins s σ H _ I h) fun us s1 ⟨vs, H1, I1, r1, y, ev, q1⟩ => ⟨I1.kIn, ?_⟩) he rfl
  subst ev
  show wpAny _ _ (call (.ref C) us) _ _ _
  obtain ⟨hp, g, dr, tk, os⟩ := s1
  have hsz : hp.objs.size ≤ hp.objs.size + 1 := Nat.le_succ _
  have hn : H1 (hp.objs.size + 1) = none := I1.hok.fresh hsz
  have kk : ∀ b o, hp.get? b = some o → ((hp.push (PySem.W.kdv_tup us)).push (PySem.HandSPX.excO C hp.objs.size)).get? b = some o := fun b o e => Heap.get?_push_of_some _ (Heap.get?_push_of_some _ e)
  have hget : ((hp.push (PySem.W.kdv_tup us)).push (PySem.HandSPX.excO C hp.objs.size)).get? (hp.objs.size + 1) = some (PySem.HandSPX.excO C hp.objs.size) := by heap_get
  have I2 : Inv X pins σ (upd H1 (hp.objs.size + 1) (exo (hp.objs.size + 1) C none)) ⟨(hp.push (PySem.W.kdv_tup us)).push (PySem.HandSPX.excO C hp.objs.size), g, dr, tk, os⟩ :=
    I1.laid (t' := tk) (a := hp.objs.size + 1) (o := exo (hp.objs.size + 1) C none) (h' := (hp.push (PySem.W.kdv_tup us)).push (PySem.HandSPX.excO C hp.objs.size)) kk hsz (exo_ok hget)
  have r2 : Vals [V.ref (hp.objs.size + 1), y] (Value.ref (hp.objs.size + 1) :: us) := .cons rfl r1
  have hq : SpX X.K B newId bmB f [V.ref (hp.objs.size + 1), y] (upd H1 (hp.objs.size + 1) (exo (hp.objs.size + 1) C none)) (fun v H2 => v = .non ∧ ∃ d, H1 d = none ∧ d ≠ hp.objs.size + 1 ∧ H2 = upd (upd (upd H1 (hp.objs.size + 1) (exo (hp.objs.size + 1) C none)) d (exd d [(f, y)])) (hp.objs.size + 1) (exo (hp.objs.size + 1) C (some d))) (fun _ _ _ => False) :=
    ⟨_, C, y, rfl, T, hno, upd_same, fun dx hdx hne => ⟨rfl, dx, by rw [upd_ne hne] at hdx; exact hdx, hne, rfl⟩⟩
  have hl : (Value.ref (hp.objs.size + 1) :: us ++ []).length = ps.length := by
    have e := r2.length
    rw [F1.len _ _ _ _ hq] at e
    rw [List.append_nil]
    exact e.symm
  have hus : us.length ≤ sizeLine := by
    rw [← Paired.length r1, sizeLine_eq]
    show 1 ≤ _
    omega
  have b2 := hb ⟨(hp.push (PySem.W.kdv_tup us)).push (PySem.HandSPX.excO C hp.objs.size), g, dr, tk, os⟩ (Value.ref (hp.objs.size + 1) :: us) I2.kIn hl
  rw [List.append_nil] at b2
  refine wpAny_call (PySem.HandSPX.call_own b.F (fun Y => refsT_contains Y bm hbm) (I1.kIn _ _ hC) (PySem.W.looks_findIn I1.kIn iC) (fun self => PySem.W.bind_fn I1.kIn self tI) hus
    (codeAny_mono (F1.go _ X.stack _ _ ⟨Value.ref (hp.objs.size + 1) :: us, []⟩ (Value.ref (hp.objs.size + 1) :: us) _ _ (fun _ _ _ => False) (hr.make C us []) (I2.env0.make C us []) b2 r2 hq) fun r s' hq' => ?_))
  cases r with
  | error er => exact hx pins σ _ _ er s' I2 hq'
  | ok fl =>
    cases fl with
    | ret u =>
      obtain ⟨v, H2, os2, bare2, un2, hok2, rv, ev, d, hd1, hne, eH⟩ := hq'
      subst ev
      subst eH
      obtain ⟨h2, g2, d2, t2, os'⟩ := s'
      have ea : (upd (upd (upd H1 (hp.objs.size + 1) (exo (hp.objs.size + 1) C none)) d (exd d [(f, y)])) (hp.objs.size + 1) (exo (hp.objs.size + 1) C (some d))) (hp.objs.size + 1) = some (exo (hp.objs.size + 1) C (some d)) := upd_same
      have ed : (upd (upd (upd H1 (hp.objs.size + 1) (exo (hp.objs.size + 1) C none)) d (exd d [(f, y)])) (hp.objs.size + 1) (exo (hp.objs.size + 1) C (some d))) d = some (exd d [(f, y)]) := by rw [upd_ne hne, upd_same]
      have eq : upd (L2.del (upd (upd (upd H1 (hp.objs.size + 1) (exo (hp.objs.size + 1) C none)) d (exd d [(f, y)])) (hp.objs.size + 1) (exo (hp.objs.size + 1) C (some d))) (hp.objs.size + 1)) d (.xd [(f, y)]) = upd H1 d (.xd [(f, y)]) := by
        funext b
        by_cases e1 : b = d
        · rw [e1, upd_same, upd_same]
        · rw [upd_ne e1, upd_ne e1]
          by_cases e2 : b = hp.objs.size + 1
          · rw [e2, L2.del_same, hn]
          · rw [L2.del_ne e2, upd_ne e2, upd_ne e1, upd_ne e2]
      have q2 := q1 C d hm hns hd1
      rw [← eq] at q2
      exact ⟨rv, mk_end (raises_own T.exC T.tyC) I1 hsz kk un2 hok2 os2 bare2 ea ed hd1 q2⟩
    | next => exact False.elim hq'
    | brk => exact False.elim hq'
    | cont => exact False.elim hq'
end
end BD
/-! raise of an own class; what the written part tells of it -/
namespace BD
open PySem PySem.Spec PyProof.Rows L2
open PySem (sizeLine_eq)
/-- the def number j of a class statement -/
def inCls (j : Nat) : Stmt → Stmt
  | .ClassDef _ _ _ b _ _ _ _ _ _ _ => b.getD j (.Pass ⟨0, 0, 0, 0⟩)
  | s => s
/-- an own class of errors by its name -/
structure XM (K : PySem.W.Frag) (mg : Str → Option Value) (c f : Str) : Prop where
  ex : ∃ C, mg c = some (.ref C) ∧ XCl K c f C
section
variable {P : Program} {w : World} {K : PySem.W.Frag} {mg : Str → Option Value} {base : Heap}
theorem EC.mono {j k : Nat} {c f : Str} (E : EC P w K mg base j c f) (h : j ≤ k) : EC P w K mg base k c f := by
  obtain ⟨B, newId, initId, bmB, C, fI, fd, ps, b, e1, e2, T, e3, e4, e5, F, e6⟩ := E.ex
  exact ⟨B, newId, initId, bmB, C, fI, fd, ps, b, e1, e2, T, e3, e4, e5, F.mono h, e6⟩
theorem refsT_self {B newId initId : String} {bmB : List Value} (b : Bse B newId initId bmB) : refsT bmB bmB = true := by
  have : ∀ l : List Value, (∀ v ∈ l, ∃ T, v = .type T) → refsT bmB l = (l == bmB) := by
    intro l h
    cases l with
    | nil => rfl
    | cons v r =>
      obtain ⟨T, rfl⟩ := h v List.mem_cons_self
      rfl
  rw [this bmB]
  · simp
  · intro v hv
    exact b.ty_ v hv
/-- the class of errors c, over B: what is told of it, and its __init__ -/
theorem ec_mk {h : Heap} {c f qual : Str} {B newId initId : String} {bmB : List Value} {C fI : Addr} {st : Stmt} {q : Str} {N0 : Addr} {bs : List Value} {sn : List Str} {sub : List Value} {ab : Bool} {col : Option Bool} {dd : Option Addr} {k0 k1 k2 k3 k5 : Option Value}
    {oc kV doc pm cdv ct : Value} {od an : Option Addr} {osl : Array (Option Value)}
    (b : Bse B newId initId bmB) (hbm : bmOf c = bmB) (X : K.In h) (G : h.Ns mainGlobals mg) (aC : PySem.W.nsIn K mainGlobals c = some (some (.ref C)))
    (xL : K.lookup C = some (excClassObj c q C N0 bs (bmOf c) true sn sub ab col dd k0 k1 k2 k3 k5 newId))
    (sa : PySem.W.findIn K (.ref C) "__setattr__" = some (some (.builtin "object.__setattr__"))) (exC : PySem.W.subIn K (.ref C) (.type "BaseException") = some true) (tyC : PySem.W.typeIn K (.ref C) = some (.type "type")) (kC : PySem.W.keepIn K (.ref C) = true)
    (no : PySem.W.findIn K (.ref C) f = some none) (iC : PySem.W.findIn K (.ref C) "__init__" = some (some (.ref fI))) (tI : PySem.W.typeIn K (.ref fI) = some (.type "function"))
    (l : K.lookup fI = some ⟨oc, od, .func (PySem.W.fnOf "__init__" qual (defArgs st) (defBody st) (defScope st) .none kV doc pm an cdv ct), osl⟩) (cI : PySem.W.codeIn K cdv qual = true) (kI : PySem.W.keepIn K (.ref fI) = true)
    (bI : ∀ (kV doc pm : Value) (an : Option Addr) (cdv ct : Value) (us : List Value), us.length = 2 → bindArgs (PySem.W.fnOf "__init__" qual (defArgs st) (defBody st) (defScope st) .none kV doc pm an cdv ct) ⟨us, []⟩ = pure ((["self", f] : List Str).zip us))
    (S : FnScope ["self", f] ["self", f] (defScope st))
    (body : ∀ (cd : Value) (A : Around) (outer : List PySem.Env) (s : Shared) (H : Hp) (E : XK), PSs (cxOf (L2.CX P w) P w K mg base ["self", f] qual (defScope st) fI cd A outer s H E) (defBody st)
      (tSeq (tDrop (tBIn K B newId bmB (tCons (tVar 0) (tCons (tVar 1) tNil)))) (tOsT K B newId bmB f (tVar 0) (tVar 1)))) : EC P w K mg base 1 c f := by
  have F := fun_mk (x := "__init__") (qual := qual) (st := st) l cI kI
  have T : OexT K B newId bmB C := ⟨⟨c, q, N0, bs, bmOf c, sn, sub, ab, col, dd, k0, k1, k2, k3, k5, xL, by rw [hbm]; exact refsT_self b⟩, sa, exC, tyC, kC⟩
  refine ⟨B, newId, initId, bmB, C, fI, _, ["self", f], b, PySem.W.mg_of X G aC, aC, T, no, iC, tI, okG (k := 0) F S (fun vs H Q E h => ?_) (fun cd A outer s H vs Q E hr h => ⟨_, body cd A outer s H E, ?_⟩), .all (bI _ _ _ _ _ _)⟩
  · obtain ⟨a, C', y, rfl, _⟩ := h
    rfl
  · obtain ⟨a, C', y, rfl, T', no', ea, q⟩ := h
    refine ⟨.ref a, rfl, y, rfl, a, C', [y], rfl, (by show 1 ≤ 1000; decide), T', ea, ?_⟩
    refine ⟨y, rfl, .ref a, rfl, a, C', rfl, T', no', ea, fun dx hd hne => q dx hd hne⟩
end
/-- raise C(e) -/
def sRaise (c f : Str) (ev : Ev) : Sv := fun δ => liftR (ev δ) fun d δ1 => if lfree d = true then .exc c f d δ1 else .bad
section
variable {X : Cx} {c : Sx} {M M1 W U : List Nat}
theorem psd_raise {n f : Str} {k : Nat} {e : Expr} {ev : Ev} {p pos pos2 : Pos} (E : EC X.prog X.w X.K X.mg X.base k n f) (hr : RoomG (k + 1) X.A) (hc : X.calm = true) (tk : L2.Takes X c.wx) (he : PD X c.wx M W U e ev) (hg : Gl X n := by rfl) (hm : okM c M = true := by rfl) (h2 : sb W M = true := by rfl)
    (hdb : (n == ("__debug__" : Str)) = false := by decide) (hs : starEach [e] X.env = (false, eval e X.env) :: starEach [] X.env := by rfl) : PSD X c M M1 (.Raise (some (.Call (.Name n p) [e] [] pos)) none pos2) (sRaise n f ev) := by
  have pa : PAD X c.wx M (W ++ []) (U ++ []) [e] (eCons ev eNil) := pad_cons he pad_nil rfl h2 (by simp [dj]) hs
  refine ps_imp (L2.ps_raise hc tk (pmk_ec E hr (L2.passes_call tk fun _ _ _ _ z => z.elim) hg pa hdb hs)) fun D σ H ⟨δ, b, B, L, f'⟩ => ⟨δ, b, L, ?_⟩
  unfold sRaise liftR at f'
  unfold eCons
  cases e1 : ev δ with
  | bad => rw [e1] at f'; exact f'
  | exc k g x e' => rw [e1] at f'; exact fun cls dd H' L' g' ex => f'.exc_e (U := U) hm cls dd H' L' (g'.mono (fun _ h => by simpa using h)) ex
  | ok d δ1 =>
    rw [e1] at f'
    dsimp only at f'
    by_cases hl : lfree d = true
    · rw [if_pos hl] at f'
      intro vs H1 L1 g1 r1
      cases r1 with
      | cons ry rn =>
        cases rn
        rename_i y
        refine ⟨y, rfl, fun C dd hmg _ hn => ?_⟩
        have ex := Ext.upd (o := .xd [(f, y)]) hn
        exact f' (.ref C) (some dd) σ _ M (okM_of hm) (L1.ext ex) ⟨C, dd, y, hmg, rfl, rfl, L1.nb hn, upd_same, (Rp.free hl ry).ext (fun _ h => h) ex, hl⟩
    · rw [if_neg hl] at f'
      exact f'.elim
end
end BD
/-! try: .. except (C, D, ..) as e: m = e -/
namespace BD
open PySem PySem.Spec PyProof.Rows L2
open PySem (sizeLine_eq)
section
variable {M : Model} {A : Around} {E : Value → Shared → Prop}
/-- a loop that changes nothing but perhaps stops -/
theorem forIn_stay {α β : Type} {s : Shared} {f : α → β → Sem (ForInStep β)} {b b' : β} (g : α → Bool) : ∀ (cs : List α) (Q : β → Shared → Prop),
    (∀ c ∈ cs, ∀ Q' : ForInStep β → Shared → Prop, Q' (if g c = true then .done b' else .yield b) s → wpAny M A (f c b) Q' E s) → Q (if cs.any g = true then b' else b) s → wpAny M A (forIn cs b f) Q E s := by
  intro cs
  induction cs with
  | nil =>
    intro Q _ q
    rw [List.forIn_nil]
    exact wpAny_pure (by simpa using q)
  | cons c cs ih =>
    intro Q hf q
    rw [List.forIn_cons]
    refine wpAny_bind (hf c List.mem_cons_self _ ?_)
    by_cases hg : g c = true
    · rw [if_pos hg]
      refine wpAny_pure ?_
      rw [List.any_cons, hg, Bool.true_or, if_pos rfl] at q
      exact q
    · rw [if_neg hg]
      have hg' : g c = false := by simpa using hg
      rw [List.any_cons, hg', Bool.false_or] at q
      exact ih Q (fun c' hc => hf c' (List.mem_cons_of_mem _ hc)) q
/-- does the error match one of a tuple of classes? -/
theorem exm_tupN {K : PySem.W.Frag} {h : Heap} {cls : Value} {cs : List Value} {tp e : Addr} (X : K.In h) (LT : PySem.W.Looks M h (typeOf (.ref e)) cls) (hp : h.get? tp = some { cls := .type "tuple", data := .seq cs.toArray })
    (g : Value → Bool) (hx : ∀ c ∈ cs, PySem.W.exmOne K cls c = some (g c)) : PySem.W.Looks M h (excMatches (.ref e) (.ref tp)) (cs.any g) := by
  intro A Q E s k q
  obtain ⟨hh, gg, d, tk, os⟩ := s
  have isT : PySem.W.Looks M h (isInstance (.ref tp) (.type "tuple")) true := ((PySem.W.Looks.ld hp).andThen .now).andThen (PySem.W.Looks.of_pure isSubtype_tuple_tuple)
  have there := k _ _ hp
  unfold excMatches
  refine wpAny_bind (isT A _ E _ k ?_)
  dsimp only
  rw [if_pos rfl]
  first
    | refine wpAny_bind (wpAny_bind (wpAny_seqItems there rfl (wpAny_pure ?_)))
    | refine wpAny_bind (wpAny_seqItems there rfl ?_)
  dsimp only [Option.getD_some, Option.getD]
  refine wpAny_bind (wpAny_pure ?_)
  refine wpAny_bind (forIn_stay (b' := PUnit.unit) (fun _ => false) _ _ (fun c hc Q' q' => ?_) ?_)
  · obtain ⟨x1, _⟩ := PySem.W.exm_cls (M := M) X (hx c (by simpa using hc))
    refine wpAny_bind (x1 A _ E _ k ?_)
    simp only [Bool.not_true, Bool.false_eq_true, if_false]
    first
      | exact wpAny_pure q'
      | exact wpAny_bind (wpAny_pure (wpAny_pure q'))
  refine wpAny_bind (LT A _ E _ k ?_)
  refine wpAny_bind (forIn_stay (b' := (some true, PUnit.unit)) g _ _ (fun c hc Q' q' => ?_) ?_)
  · obtain ⟨_, x2⟩ := PySem.W.exm_cls (M := M) X (hx c (by simpa using hc))
    refine wpAny_bind (x2 A _ E _ k ?_)
    cases hg : g c with
    | true =>
      rw [hg] at q'
      exact wpAny_pure q'
    | false =>
      rw [hg] at q'
      first
        | exact wpAny_pure q'
        | exact wpAny_bind (wpAny_pure (wpAny_pure q'))
  · cases hg : cs.any g with
    | true => rw [hg] at q; exact wpAny_pure q
    | false => rw [hg] at q; exact wpAny_pure q
end
theorem flying_kept {B h h' : Heap} {l : List PySem.Env} {e : Addr} {Z : Obj → Prop} (x : PySem.HandSPX.FlyingZ B l e Z h) (k : ∀ b o, h.get? b = some o → h'.get? b = some o) : PySem.HandSPX.FlyingZ B l e Z h' := by
  obtain ⟨h1, h2, h3, oe, vs, T, oT, ts, g1, g2, g3, g4, g5, g6, g7, g8⟩ := x
  exact ⟨fun b o q => k b o (h1 b o q), h2, Heap.FunFrames.of_keeps (fun b o q _ => ⟨o, k b o q, rfl⟩) h3, oe, vs, T, oT, ts, k _ _ g1, g2, g3, g4, g5, g6, k _ _ g7, g8⟩
/-- the classes that a clause names -/
inductive NmL (X : Cx) : List Expr → List Value → Prop
  | nil : NmL X [] []
  | cons {x : Str} {c : Value} {p : Pos} {es : List Expr} {cs : List Value} (hg : Gl X x) (hm : X.mg x = some c) (hd : (x == ("__debug__" : Str)) = false) (r : NmL X es cs) : NmL X (.Name x p :: es) (c :: cs)
section
variable {X : Cx} {pins : List (Addr × Obj)} {σ : L2.St} {H : Hp} {s : Shared}
theorem nmL_run {pos : Pos} (I : Inv X pins σ H s) {es : List Expr} {cs : List Value} (h : NmL X es cs) {Q : List Value → Shared → Prop} {E : Value → Shared → Prop} (q : Q cs s) : wpAny (model X.prog X.w) X.A (spliced (backTo pos (starEach es X.env))) Q E s := by
  induction h generalizing Q with
  | nil => exact wpAny_items_nil q
  | cons hg hm hd r ih => exact wpAny_items_cons (ld_glob I hg hm (ih q) hd)
theorem NmL.suite {es : List Expr} {cs : List Value} (h : NmL X es cs) (a : Addr) (pn : List (Addr × Obj)) : NmL (X.suite a pn) es cs := by
  induction h with
  | nil => exact .nil
  | cons h1 h2 h3 _ ih => exact .cons h1 h2 h3 ih
theorem nmL_len {es : List Expr} {cs : List Value} (h : NmL X es cs) : cs.length = es.length := by
  induction h with
  | nil => rfl
  | cons _ _ _ _ ih => simp [ih]
/-- an error that was pinned is tracked -/
theorem tracks {a C dx : Addr} {oe : Obj} {vs : Array Value} (I : Inv X ((a, oe) :: pins) σ H s) (n0 : X.s_0.heap.get? a = none) (hz : Zc (.ref C) (some dx) oe) (hd : oe.data = .fields vs) (np : ∀ p ∈ X.pn ++ pins, p.1 ≠ a) :
    Inv X pins σ (upd H a (XO a C dx)) s := by
  have mem : ((a, oe) : Addr × Obj) ∈ X.pn ++ (a, oe) :: pins := List.mem_append_right _ List.mem_cons_self
  obtain ⟨ha, na, nL, nF, nc⟩ := I.pin _ mem
  have old : ∀ b o, X.s_0.heap.get? b = some o → b ≠ a := fun b o e z => by rw [z, n0] at e; cases e
  have hk : HOk X.prog X.w (upd H a (XO a C dx)) s.heap := HOk.laidN I.hok (fun _ _ z => z) na ⟨⟨oe, vs, ha, hz, hd⟩, ⟨oe, ha⟩, fun _ _ ⟨o, v, e1, e2⟩ k => ⟨o, v, k _ e1, e2⟩⟩
  have ne : ∀ b o, H b = some o → b ≠ a := fun b o e z => by rw [z, na] at e; cases e
  refine ⟨I.ok, I.os, I.bare, ⟨I.base.keep, I.base.slot, fun b o e1 e2 e3 => ?_, I.base.there, fun b xs e => ?_, fun b o u e => ?_, fun b ps e => ?_⟩, I.loc, I.cell, ?_, fun x c e => ?_, fun p hp => ?_, hk, I.len⟩
  · rw [upd_ne (old b o e1)]
    exact I.base.free b o e1 e2 e3
  · have q := I.base.tups b xs e
    rw [upd_ne (ne b _ q)]; exact q
  · have q := I.base.frzs b o u e
    rw [upd_ne (ne b _ q)]; exact q
  · obtain ⟨more, q⟩ := I.base.tbls b ps e
    exact ⟨more, by rw [upd_ne (ne b _ q)]; exact q⟩
  · rw [upd_ne (Ne.symm nL)]; exact I.free
  · have hca : c ≠ a := fun z => by
      obtain ⟨v, o, e1, e2⟩ := I.cell x c e
      rw [z, ha] at e1
      cases e1
      exact nc _ e2
    rw [upd_ne hca]; exact I.freeC x c e
  · have hp' : p ∈ X.pn ++ (a, oe) :: pins := by
      rcases List.mem_append.mp hp with h | h
      · exact List.mem_append_left _ h
      · exact List.mem_append_right _ (List.mem_cons_of_mem _ h)
    obtain ⟨q1, q2, q3⟩ := I.pin p hp'
    exact ⟨q1, by rw [upd_ne (np p hp)]; exact q2, q3⟩
end
/-- what the clause wishes: i is the slot of its name, j that of the variable which keeps the error -/
def wKeep (K : PySem.W.Frag) (cs : List Value) (i j : Nat) (D : Ends) : WX := fun cls d σ H =>
  ∃ (C dx : Addr) (g : Value → Bool), cls = .ref C ∧ d = some dx ∧ (∀ c ∈ cs, PySem.W.exmOne K cls c = some (g c)) ∧ cs.any g = true ∧
    ∀ a, H a = none → D.nx (((σ.set i (some (.ref a))).set j (some (.ref a))).set i none) (upd H a (XO a C dx))
section
variable {X : Cx} {n m : Str} {i j kt : Nat} {es : List Expr} {cs : List Value} {body : List Stmt} {tp p1 p2 p3 pos pos' : Pos} {tb : WX → TS}
theorem ps_keep (hs : X.stack = X.env :: X.outer) (hf : X.env.frame = some X.env.locals) (hex : X.ex = []) (hN : X.N.Nodup) (hi : X.N[i]? = some n) (hln : X.env.kindOf n = some .local) (hvn : X.env.scope.names.lookup n = some .local) (hj : X.N[j]? = some m) (hlm : X.env.scope.names.lookup m = some .local)
    (hdn : (n == ("__debug__" : Str)) = false) (hdc : (n == ("__classdict__" : Str)) = false) (hne : NmL X es cs) (hlen : es.length ≤ 1000)
    (hsw : ∀ a pn, swapsWith (.Name n p2) (some (.Name m p1)) p3.line (X.suite a pn).env = pure false)
    (hb : ∀ (W : WX) (pn : List (Addr × Obj)) (xe : Value → Shared → Prop), L2.Takes (X.tr pn xe) W → PSs (X.tr pn xe) body (tb W)) :
    PS X (.Try body [.ExceptHandler (some (.Tuple es kt tp)) (some n) [.Assign [.Name m p1] (.Name n p2) p3] pos'] [] [] pos) (fun D σ H => tb (wKeep X.K cs i j D) D σ H) := by
  refine ⟨fun pins s σ H D I h => ?_⟩
  have okX := I.ok
  have frames : X.A.frames = some (X.env :: X.outer) := by rw [okX.frames, hs]
  refine wpAny_Try_except ?_
  have inBody := (hb (wKeep X.K cs i j D) (X.pn ++ pins) (fun e s₁ => wpAny (model X.prog X.w) X.A (noteFrame e X.env) (fun _ s₂ => wpAny (model X.prog X.w) X.A (setFlight e none) (fun _ s₃ =>
    wpAny (model X.prog X.w) X.A (handleBy e X.env [.ExceptHandler (some (.Tuple es kt tp)) (some n) [.Assign [.Name m p1] (.Name n p2) p3] pos']) (SP X pins D) X.xe s₃) X.xe s₂) X.xe s₁) (fun u s' air => ?_)).run [] s σ H D (I.toTry _) h
  · refine wpAny_mono inBody (fun fl s1 got => ?_) (fun e s1 got => got)
    cases fl with
    | next =>
      obtain ⟨σ1, H1, J1, q1⟩ := got
      exact wpAny_execs_nil ⟨σ1, H1, J1.ofTry okX, q1⟩
    | ret u =>
      obtain ⟨v, σ1, H1, J1, r1, q1⟩ := got
      exact ⟨v, σ1, H1, J1.ofTry okX, r1, q1⟩
    | brk =>
      obtain ⟨σ1, H1, J1, q1⟩ := got
      exact ⟨σ1, H1, J1.ofTry okX, q1⟩
    | cont =>
      obtain ⟨σ1, H1, J1, q1⟩ := got
      exact ⟨σ1, H1, J1.ofTry okX, q1⟩
  · obtain ⟨a, B, sI, pins', σ1, H1, cls, d, rfl, J0, ground, upS, sky, na, hos, bare, C, dx, g, rfl, rfl, hg, hany, wish⟩ := air
    have J1 : Inv X pins σ1 H1 sI := J0.ofTry okX
    have hil : i < σ1.length := by rw [J1.len]; exact (List.getElem?_eq_some_iff.mp hi).1
    rw [show (X.tr (X.pn ++ pins) _).stack = X.env :: X.outer from hs] at sky
    have sB : B.get? a = none := by
      rcases sky with ⟨_, q, _⟩ | ⟨_, q, _⟩ | ⟨_, q, _⟩ <;> exact q
    refine show wpAny _ _ (noteFrame (.ref a) X.env) _ _ _ from Sky.land Zc.steady frames hf sky fun h2 fly2 up2 => ?_
    have J2 : Inv X pins σ1 H1 { s' with heap := h2 } := J1.landed ground fly2.1 (upS.trans up2) hos bare
    have nfr : ∀ {h : Heap}, PySem.HandSPX.FlyingZ B (X.env :: X.outer) a (Zc (.ref C) (some dx)) h → a ∉ frs (X.env :: X.outer) := fun {h} fly hm => by
      obtain ⟨_, _, ff, oe, vs, T, oT, ts, e1, _, e2, _⟩ := fly
      obtain ⟨_, o, e3, hnf⟩ := ff.mem hm
      rw [e1] at e3; cases e3
      exact hnf _ e2
    have aFr := nfr fly2
    have aL : a ≠ X.env.locals := fun z => aFr (List.mem_filterMap.mpr ⟨X.env, List.mem_cons_self, by rw [hf, z]⟩)
    have aF : a ∉ X.fs := fun hm => by
      obtain ⟨env', inOuter, q⟩ := List.mem_filterMap.mp hm
      exact aFr (List.mem_filterMap.mpr ⟨env', .tail _ inOuter, q⟩)
    have aI : sI.heap.get? a = none := by
      cases q : sI.heap.get? a with
      | none => rfl
      | some o =>
        have z := ground a o q (by rw [show (X.tr (X.pn ++ pins) _).stack = X.env :: X.outer from hs]; exact aFr)
        rw [sB] at z; cases z
    have a0 : X.s_0.heap.get? a = none := by
      cases q : X.s_0.heap.get? a with
      | none => rfl
      | some o =>
        obtain ⟨o', z⟩ := J1.base.there a o q (by rw [hex]; exact fun z => nomatch z)
        rw [aI] at z; cases z
    have aP : ∀ p ∈ X.pn ++ pins, p.1 ≠ a := fun p hp z => by
      have q := (J1.pin p hp).1
      rw [z, aI] at q; cases q
    obtain ⟨oe2, vs2, he2, hz2, hd2⟩ := fly2.there
    have S2 := J2.suite he2 hd2 na aL aF
    refine wpAny_handleBy_cons (codeAny_handlers_test (wpAny_Tuple ?_)) fun z => by cases z
    refine (nmL_run (X := X.suite a ((a, oe2) :: (X.pn ++ pins))) S2 (hne.suite a _) ⟨by rw [nmL_len hne, sizeLine_eq]; omega, ?_⟩)
    have grow : ∀ b o, h2.get? b = some o → (h2.push { cls := .type "tuple", data := .seq cs.toArray }).get? b = some o := fun _ _ z => Heap.get?_push_of_some _ z
    have J3 : Inv X pins σ1 H1 { s' with heap := h2.push { cls := .type "tuple", data := .seq cs.toArray } } := J2.kept (t' := s'.toks) grow
    have fly3 := flying_kept fly2 grow
    have LT : PySem.W.Looks (model X.prog X.w) (h2.push { cls := .type "tuple", data := .seq cs.toArray }) (typeOf (.ref a)) (.ref C) := fun A Q E s k q => wpAny_typeOf_ref (k _ _ (grow _ _ he2)) (by rw [hz2.1]; exact q)
    have LM := exm_tupN (M := model X.prog X.w) (tp := h2.objs.size) J3.kIn LT (Heap.get?_push_size h2 rfl) g hg
    rw [hany] at LM
    refine LM.here ?_
    refine codeAny_handlers_suite_as (PySem.HandSPX.lands_againZ fly3 fun h4 fly4 up4 => ?_)
    have J4 : Inv X pins σ1 H1 { s' with heap := h4 } := J1.landed ground fly4.1 (((upS.trans up2).trans (Heap.UpToSlots.of_keeps grow)).trans up4) hos bare
    obtain ⟨oe4, vs4, he4, hz4, hd4⟩ := fly4.there
    have S4 := J4.suite he4 hd4 na aL aF
    refine store_ok (X := X.suite a ((a, oe4) :: (X.pn ++ pins))) (v := .ref a) S4 hN hi (.inl hvn) rfl (fun s5 S5 => ?_) (.inr hvn)
    have asg : PSs (X.suite a ((a, oe4) :: (X.pn ++ pins))) [.Assign [.Name m p1] (.Name n p2) p3] (tAsg (tVar i) (gName j)) :=
      pss_one (ps_set hN hj (.inl hlm) (pe_var hi (.inl hvn) hdn hdc) (hsw _ _) (.inr hlm))
    have ran := asg.run [] s5 _ H1 { nx := fun σ' H' => σ' = (σ1.set i (some (.ref a))).set j (some (.ref a)) ∧ H' = H1, rt := fun _ _ => False } S5 ⟨.ref a, List.getElem?_set_self hil, rfl, rfl⟩
    refine wpAny_mono ran (fun fl s6 got => ?_) (fun _ _ z => False.elim z)
    cases fl with
    | next =>
      obtain ⟨σ6, H6, S6, rfl, rfl⟩ := got
      have J6 : Inv X ((a, oe4) :: pins) ((σ1.set i (some (.ref a))).set j (some (.ref a))) H6 s6 :=
        ⟨okX, S6.os, S6.bare, S6.base, S6.loc, S6.cell, S6.free, S6.freeC, fun p hp => S6.pin p (by
          rcases List.mem_append.mp hp with h | h
          · exact List.mem_append_left _ (List.mem_cons_of_mem _ (List.mem_append_left _ h))
          · rcases List.mem_cons.mp h with h | h
            · rw [h]; exact List.mem_append_left _ List.mem_cons_self
            · exact List.mem_append_left _ (List.mem_cons_of_mem _ (List.mem_append_right _ h))), S6.hok, S6.len⟩
      refine gone_ok J6 hN hi hln fun s7 J7 => ?_
      exact ⟨_, _, tracks J7 a0 hz4 hd4 aP, wish a na⟩
    | ret u =>
      obtain ⟨_, _, _, _, _, z⟩ := got
      exact z.elim
    | brk =>
      obtain ⟨_, _, _, z⟩ := got
      exact z.elim
    | cont =>
      obtain ⟨_, _, _, z⟩ := got
      exact z.elim
end
end BD
/-! a caught error in a variable: is it None, isinstance, its field -/
namespace BD
open PySem PySem.Spec PyProof.Rows L2
open PySem (sizeLine_eq)
/-! ### what is told of a class of errors -/
section
variable {K : PySem.W.Frag} {c c' f f' : Str} {C C' : Addr}
theorem XCl.cd (T : XCl K c f C) : ∃ cd, PySem.W.clsIn K C = some cd ∧ cd.mro = .ref C :: bmOf c ∧ cd.hasDict = true := by
  obtain ⟨q, N, bs, sn, sub, ab, col, dd, k0, k1, k2, k3, k5, newId, e⟩ := T.cls
  refine ⟨_, by unfold PySem.W.clsIn; rw [e], rfl, rfl⟩
theorem XCl.mro (T : XCl K c f C) (v : Value) : PySem.W.mroIn K C v = some (v == .ref C || (bmOf c).contains v) := by
  obtain ⟨cd, h1, h2, _⟩ := T.cd
  unfold PySem.W.mroIn
  rw [h1, Option.bind_some, h2]
  rfl
theorem bmOf_base (c : Str) (T : String) (h : T = "BaseException" ∨ T = "object") : (bmOf c).contains (.type T) = true := by
  unfold bmOf
  rcases h with rfl | rfl <;> (repeat' split) <;> decide +kernel
theorem bmOf_ref (c : Str) (a : Addr) : (bmOf c).contains (.ref a) = false := by
  unfold bmOf
  (repeat' split) <;> rfl
theorem XCl.sub (T : XCl K c f C) : PySem.W.subIn K (.ref C) (.type "BaseException") = some true := by
  show PySem.W.mroIn K C _ = _
  rw [T.mro, bmOf_base _ _ (.inl rfl), Bool.or_true]
theorem XCl.same (T : XCl K c f C) (T' : XCl K c' f' C) : c = c' := by
  obtain ⟨q, N, bs, sn, sub, ab, col, dd, k0, k1, k2, k3, k5, newId, e⟩ := T.cls
  obtain ⟨q', N', bs', sn', sub', ab', col', dd', k0', k1', k2', k3', k5', newId', e'⟩ := T'.cls
  rw [e] at e'
  have h := Option.some.inj e'
  injection h with _ _ h _
  injection h with h
  injection h with h
theorem kitCls_own (T : XCl K c f C) (T' : XCl K c' f' C') : PySem.W.kitCls K (.ref C) (.ref C') = some (Value.ref C' == Value.ref C) := by
  obtain ⟨cd, h1, h2, _⟩ := T'.cd
  have e : ((PySem.W.clsIn K C').isSome && PySem.W.typeIn K (.ref C') == some (.type "type")) = true := by rw [h1, T'.tyC]; rfl
  show (if ((PySem.W.clsIn K C').isSome && PySem.W.typeIn K (.ref C') == some (.type "type")) = true then PySem.W.subIn K (.ref C) (.ref C') else none) = _
  rw [if_pos e]
  show PySem.W.mroIn K C _ = _
  rw [T.mro, bmOf_ref, Bool.or_false]
theorem kitOne_own (T : XCl K c f C) (T' : XCl K c' f' C') : PySem.W.kitOne K (.ref C) (.ref C') = some (Value.ref C' == Value.ref C) := by
  unfold PySem.W.kitOne
  by_cases h : (Value.ref C == Value.ref C') = true
  · have e := eq_of_beq h
    rw [if_pos h, e]; simp
  · rw [if_neg h]; exact kitCls_own T T'
theorem exmOne_own (T : XCl K c f C) (T' : XCl K c' f' C') : PySem.W.exmOne K (.ref C) (.ref C') = some (Value.ref C' == Value.ref C) := by
  unfold PySem.W.exmOne
  rw [if_pos (by rw [T'.sub]; rfl)]
  exact kitCls_own T T'
theorem kitOne_blt (T : XCl K c f C) {t : String} (h : PySem.W.kitMeta t = true) : PySem.W.kitOne K (.ref C) (.type t) = some ((bmOf c).contains (.type t)) := by
  unfold PySem.W.kitOne
  rw [if_neg (by intro z; cases z)]
  show (if PySem.W.kitMeta t = true then PySem.W.subIn K (.ref C) (.type t) else none) = _
  rw [if_pos h]
  show PySem.W.mroIn K C _ = _
  rw [T.mro]
  rfl
/-- None is no instance of an own class -/
theorem kitOne_non (T' : XCl K c' f' C') : PySem.W.kitOne K (.type "NoneType") (.ref C') = some false := by
  obtain ⟨cd, h1, h2, _⟩ := T'.cd
  have e : ((PySem.W.clsIn K C').isSome && PySem.W.typeIn K (.ref C') == some (.type "type")) = true := by rw [h1, T'.tyC]; rfl
  show (if ((PySem.W.clsIn K C').isSome && PySem.W.typeIn K (.ref C') == some (.type "type")) = true then PySem.W.subIn K (.type "NoneType") (.ref C') else none) = _
  rw [if_pos e]
  have q : PySem.fastBuiltinMro "NoneType" = some [.type "NoneType", .type "object"] := by decide +kernel
  show (PySem.fastBuiltinMro "NoneType").map (·.contains (Value.ref C')) = _
  rw [q]
  rfl
/-- what the library's isinstance rules ask of an error with a dict -/
theorem kitx_X (T : XCl K c f C) (a : Addr) : PySem.W.KitX K (.ref a) (.ref C) (fun h => ∃ oe od, PySem.W.InstAt h a oe C od) where
  ty := fun _ _ _ ⟨_, _, I⟩ => I.type
  it := fun _ _ X _ => by
    obtain ⟨q, N, bs, sn, sub, ab, col, dd, k0, k1, k2, k3, k5, newId, e⟩ := T.cls
    intro A Q E s k w
    unfold isType loadHead
    exact wpAny_bind (wpAny_loadPart (k _ _ (X _ _ e)) (wpAny_pure w))
  ne := fun h tp dd its n sl X htp => by
    obtain ⟨q, N, bs, sn, sub, ab, col, dd, k0, k1, k2, k3, k5, newId, e⟩ := T.cls
    rw [beq_eq_false_iff_ne]
    intro z
    rw [← Value.ref.inj z] at htp
    have y := Option.some.inj ((X _ _ e).symm.trans htp)
    injection y with y
    injection y with y
    exact absurd y (by decide)
  ca := fun X ⟨oe, od, I⟩ k => by
    obtain ⟨cd, h1, h2, _⟩ := T.cd
    exact PySem.W.kx_classE X I T.ga T.gg T.sub (PySem.W.findObj_dataE (by rw [h1]; rfl) T.ha T.hn T.ht) (by rw [T.mro, bmOf_base _ _ (.inr rfl), Bool.or_true]) k
end
section
variable {X : Cx} {pins : List (Addr × Obj)} {σ : L2.St} {H : Hp} {s : Shared}
theorem inst_X {a C dx : Addr} {fs : List (Str × V)} (I : Inv X pins σ H s) (ha : H a = some (XO a C dx)) (hd : H dx = some (.xd fs)) : ∃ oe od, PySem.W.InstAt s.heap a oe C (some od) ∧ s.heap.get? dx = some od ∧ ∃ mA : Str → Option Value, (∀ name, PySem.W.lookIn name od = some (mA name)) ∧ ∀ f, RelO (fs.lookup f) (mA f) := by
  have o1 : ObjOk X.prog X.w H s.heap a (XO a C dx) := I.hok a _ ha
  have o2 : ObjOk X.prog X.w H s.heap dx (.xd fs) := I.hok dx _ hd
  obtain ⟨⟨oe, vs, e1, z, e2⟩, _⟩ := o1
  obtain ⟨mA, ns, hr⟩ := o2
  obtain ⟨od, ho, hl⟩ := lookIn_ns ns
  exact ⟨oe, od, ⟨e1, z.1, by unfold PySem.W.notCls; rw [e2] <;> rfl, by rw [z.2]; exact ho⟩, ho, mA, hl, hr⟩
/-- isinstance of an error -/
def rIsX (K : PySem.W.Frag) : List V → Hp → VK → Prop := fun xs H Q => ∃ (a C dx : Addr) (fs : List (Str × V)) (c f : Str) (v : V) (b : Bool), xs = [.ref a, v] ∧ H a = some (XO a C dx) ∧ H dx = some (.xd fs) ∧ XCl K c f C ∧
  ((∃ u, ClsV v u ∧ PySem.W.kitOne K (.ref C) u = some b) ∨ ∃ tp cs us, v = .ref tp ∧ H tp = some (.tup cs) ∧ Paired ClsV cs us ∧ PySem.W.kitAny K (.ref C) us = some b) ∧ Q (.bl b) H
theorem call_isX : CallR X (.builtin "isinstance") (rIsX X.K) := by
  intro pins s σ H xs us Q I r h
  obtain ⟨a, C, dx, fs, c, f, v, b, rfl, ha, hd, T, w, q⟩ := h
  obtain ⟨u1, u2, rfl, r1, r2⟩ := vals2 r
  cases (show u1 = Value.ref a from r1)
  obtain ⟨oe, od, J, _⟩ := inst_X I ha hd
  rcases w with ⟨u, k, e⟩ | ⟨tp, cs, us, rfl, ht, k, e⟩
  · have e2 := k.eq r2
    subst e2
    exact PySem.W.kia_one (kitx_X T a) I.kIn ⟨oe, some od, J⟩ e (fun z => nomatch z) fun tk => ⟨.bl b, H, I.tok tk, rfl, q⟩
  · cases (show u2 = Value.ref tp from r2)
    obtain ⟨_, its, rv, o, h1, h2, n, h3⟩ := (show ObjOk X.prog X.w H s.heap tp (.tup cs) from I.hok tp _ ht)
    have e3 := ClsV.all k rv
    subst e3
    obtain ⟨oc, od', dt, sl⟩ := o
    simp only at h2 h3
    subst h2 h3
    exact PySem.W.kia_tup (kitx_X T a) I.kIn ⟨oe, some od, J⟩ h1 e (fun z => nomatch z) fun tk => ⟨.bl b, H, I.tok tk, rfl, q⟩
theorem call_isW : CallR X (.builtin "isinstance") (fun xs H Q => rIsi X.K xs H Q ∨ rIsiT X.K xs H Q ∨ rIsX X.K xs H Q) := fun pins s σ H xs us Q I r h => by
  rcases h with h | h | h
  · exact call_isi pins s σ H xs us Q I r h
  · exact call_isiT pins s σ H xs us Q I r h
  · exact call_isX pins s σ H xs us Q I r h
end
/-! ### the targets of isinstance -/
inductive XT where
  | own (c : Str)
  | blt (t : String)
def xIs (c : Str) : XT → Bool
  | .own c' => c == c'
  | .blt t => (bmOf c).contains (.type t)
inductive TgL (X : Cx) : List Expr → List V → List Value → List XT → Prop
  | nil : TgL X [] [] [] []
  | own {c f : Str} {C : Addr} {p : Pos} {es vs us ts} (hg : Gl X c) (hm : X.mg c = some (.ref C)) (T : XCl X.K c f C) (hd : (c == ("__debug__" : Str)) = false) (r : TgL X es vs us ts) : TgL X (.Name c p :: es) (.ref C :: vs) (.ref C :: us) (.own c :: ts)
  | blt {x : Str} {t : String} {p : Pos} {es vs us ts} (hg : Gl X x) (hm : X.mg x = none) (hv : bootBuiltins x = some (.type t)) (hn : x ≠ "__name__") (hd : (x == ("__debug__" : Str)) = false) (hk : PySem.W.kitMeta t = true) (h0 : kitB "NoneType" t = some false) (r : TgL X es vs us ts) :
      TgL X (.Name x p :: es) (.ty t :: vs) (.type t :: us) (.blt t :: ts)
/-- names of own classes: hypotheses of a law's text -/
structure Tg (X : Cx) (es : List Expr) (ts : List XT) : Prop where
  ex : ∃ vs us, TgL X es vs us ts
section
variable {X : Cx}
theorem Tg.nil : Tg X [] [] := ⟨_, _, .nil⟩
theorem Tg.own {c f : Str} {p : Pos} {es : List Expr} {ts : List XT} (xm : XM X.K X.mg c f) (r : Tg X es ts) (hg : Gl X c := by rfl) (hd : (c == ("__debug__" : Str)) = false := by decide) : Tg X (.Name c p :: es) (.own c :: ts) := by
  obtain ⟨vs, us, r⟩ := r.ex
  obtain ⟨C, hm, T⟩ := xm.ex
  exact ⟨_, _, .own hg hm T hd r⟩
theorem Tg.blt {x : Str} {t : String} {p : Pos} {es : List Expr} {ts : List XT} (hm : X.mg x = none) (hv : bootBuiltins x = some (.type t)) (r : Tg X es ts) (hk : PySem.W.kitMeta t = true := by decide +kernel) (h0 : kitB "NoneType" t = some false := by decide +kernel) (hg : Gl X x := by rfl) (hn : x ≠ "__name__" := by decide) (hd : (x == ("__debug__" : Str)) = false := by decide) :
    Tg X (.Name x p :: es) (.blt t :: ts) := by
  obtain ⟨vs, us, r⟩ := r.ex
  exact ⟨_, _, .blt hg hm hv hn hd hk h0 r⟩
theorem TgL.pa {es : List Expr} {vs : List V} {us : List Value} {ts : List XT} (h : TgL X es vs us ts) : PA X es (fun _ H Q => Q vs H) := by
  induction h with
  | nil => exact pa_nil
  | own hg hm T hd r ih => exact pa_cons (pe_glob (v := .ref _) hg hm rfl hd) ih
  | blt hg hm hv hn hd hk h0 r ih => exact pa_cons (pe_ty hm hv hg hn hd) ih
theorem TgL.cls {es : List Expr} {vs : List V} {us : List Value} {ts : List XT} (h : TgL X es vs us ts) : Paired ClsV vs us := by
  induction h with
  | nil => exact .nil
  | own hg hm T hd r ih => exact .cons (.own _) ih
  | blt hg hm hv hn hd hk h0 r ih => exact .cons (.ty _) ih
theorem TgL.non {es : List Expr} {vs : List V} {us : List Value} {ts : List XT} (h : TgL X es vs us ts) : PySem.W.kitAny X.K (.type "NoneType") us = some false := by
  induction h with
  | nil => rfl
  | own hg hm T hd r ih => exact kitAny_cons (kitOne_non T) (fun _ => ih) fun z => by cases z
  | blt hg hm hv hn hd hk h0 r ih => exact kitAny_cons (kit_ty h0) (fun _ => ih) fun z => by cases z
theorem own_same {K : PySem.W.Frag} {c c' f f' : Str} {C C' : Addr} (T : XCl K c f C) (T' : XCl K c' f' C') : (Value.ref C' == Value.ref C) = (c == c') := by
  by_cases e : c = c'
  · subst e
    have h := T'.ns
    rw [T.ns] at h
    cases h
    simp
  · have n : ¬ C' = C := fun z => e (by rw [z] at T'; exact T.same T')
    have n' : ¬ (Value.ref C' = Value.ref C) := fun z => n (Value.ref.inj z)
    rw [beq_eq_false_iff_ne.mpr n', beq_eq_false_iff_ne.mpr e]
theorem TgL.exc {es : List Expr} {vs : List V} {us : List Value} {ts : List XT} {c f : Str} {C : Addr} (T : XCl X.K c f C) (h : TgL X es vs us ts) : PySem.W.kitAny X.K (.ref C) us = some (ts.any (xIs c)) := by
  induction h with
  | nil => rfl
  | own hg hm' T' hd r ih =>
    refine kitAny_cons (kitOne_own T T') (fun z => ?_) fun z => ?_
    · rw [own_same T T'] at z
      rw [List.any_cons, show xIs c (.own _) = _ from z, Bool.false_or]; exact ih
    · rw [own_same T T'] at z
      rw [List.any_cons, show xIs c (.own _) = _ from z, Bool.true_or]
  | blt hg hm' hv hn hd hk h0 r ih =>
    refine kitAny_cons (kitOne_blt T hk) (fun z => ?_) fun z => ?_
    · rw [List.any_cons, show xIs c (.blt _) = _ from z, Bool.false_or]; exact ih
    · rw [List.any_cons, show xIs c (.blt _) = _ from z, Bool.true_or]
theorem TgL.one {e : Expr} {vs : List V} {us : List Value} {ts : List XT} (h : TgL X [e] vs us ts) : ∃ v u, vs = [v] ∧ us = [u] ∧ ClsV v u ∧ PE X e (tC v) := by
  cases h with
  | own hg hm T hd r => cases r; exact ⟨_, _, rfl, rfl, .own _, pe_glob (v := .ref _) hg hm rfl hd⟩
  | blt hg hm hv hn hd hk h0 r => cases r; exact ⟨_, _, rfl, rfl, .ty _, pe_ty hm hv hg hn hd⟩
theorem kitAny_one {K : PySem.W.Frag} {t u : Value} {b : Bool} (h : PySem.W.kitAny K t [u] = some b) : PySem.W.kitOne K t u = some b := by
  unfold PySem.W.kitAny at h
  split at h
  · rename_i q; rw [q]; exact h
  · rename_i q
    rw [q]
    have h : some false = some b := h
    exact h
  · cases h
end
end BD
/-! try, and a caught error in a variable: the rules with data -/
namespace BD
open PySem PySem.Spec PyProof.Rows L2
open PySem (sizeLine_eq)
section
variable {K : PySem.W.Frag} {M : List Nat} {b : Bs} {σ : L2.St} {H : Hp} {δ : Env} {i : Nat}
theorem del_out {M : List Nat} {i : Nat} (h : i ∉ M) : del M i = M := by
  unfold del
  refine List.filter_eq_self.mpr fun j hj => ?_
  have : j ≠ i := fun z => h (z ▸ hj)
  simpa using this
/-- a slot is emptied -/
theorem Loc.setN (L : Loc K M b σ H δ) (hi : i ∉ M) (hrf : ∀ q ∈ b.rf, q.1 ≠ i) : Loc K M b (σ.set i none) H (δ.set i none) := by
  have out : ∀ j, j ∈ M → j ≠ i := fun j hj z => hi (z ▸ hj)
  have hc : ∀ q, Sb M b σ q → Sb M b (σ.set i none) q := fun q h => ⟨fun ⟨j, hj, e⟩ => h.1 ⟨j, hj, by
    rw [List.getElem?_set_ne (Ne.symm (out j hj))] at e
    exact e⟩, h.2⟩
  refine ⟨L.trk, L.fr, L.tp, fun j hj => ?_, fun j hj => ?_, fun j k p hj hk e1 e2 => ?_, fun q hq => ?_, L.zT, L.zB⟩
  · by_cases hji : i = j
    · subst hji
      rw [set_at, set_at, if_pos rfl, if_pos rfl, L.len]
      by_cases hl : i < δ.length
      · rw [if_pos hl, if_pos hl]; trivial
      · rw [if_neg hl, if_neg hl]; trivial
    · rw [set_at, set_at, if_neg hji, if_neg hji]
      exact (L.imm j hj).mono hc
  · rw [set_at, set_at, if_neg (Ne.symm (out j hj)), if_neg (Ne.symm (out j hj))]
    exact (L.mu j hj).mono hc (fun _ h => h) fun _ h => h
  · rw [List.getElem?_set_ne (Ne.symm (out j hj))] at e1
    rw [List.getElem?_set_ne (Ne.symm (out k hk))] at e2
    exact L.inj j k p hj hk e1 e2
  · obtain ⟨h1, h2, h3⟩ := L.rfs q hq
    exact ⟨h1, by rw [List.getElem?_set_ne (Ne.symm (hrf q hq))]; exact h2, h3⟩
/-- where a new thing that is no list lies, one may lean on it -/
theorem Loc.sbX (L : Loc K M b σ H δ) {p : Addr} {o : HO} (n : Nb b p) (e : H p = some o) (h : ∀ xs, o ≠ .lst xs) : Sb M b σ p := by
  refine ⟨fun c => ?_, fun z => ?_, fun o' e' => ?_⟩
  · obtain ⟨xs, q⟩ := L.cell c
    rw [e] at q
    exact h xs (Option.some.inj q)
  · obtain ⟨xs, q⟩ := L.zT _ z
    rw [e] at q
    exact h xs (Option.some.inj q)
  · have n : b.B p = none := n
    rw [n] at e'; cases e'
end
/-- try: s / except (classes cs) as i: j = i -/
def sTry (i j : Nat) (cs : List (Str × Str)) (s : Sv) : Sv := fun δ => match s δ with
  | .exc c f x δ1 => if cs.contains (c, f) = true then .nx ((δ1.set j (some (xD c f x))).set i none) else .bad
  | o => o
/-- the clause's classes -/
inductive XL (X : Cx) : List Expr → List (Str × Str) → Prop
  | nil : XL X [] []
  | cons {c f : Str} {p : Pos} {es : List Expr} {cs : List (Str × Str)} (xm : XM X.K X.mg c f) (r : XL X es cs) (hg : Gl X c := by rfl) (hd : (c == ("__debug__" : Str)) = false := by decide) : XL X (.Name c p :: es) ((c, f) :: cs)
theorem XL.len {X : Cx} {es : List Expr} {cs : List (Str × Str)} (h : XL X es cs) : es.length = cs.length := by
  induction h with
  | nil => rfl
  | cons _ _ _ _ ih => simp [ih]
theorem XL.nm {X : Cx} {es : List Expr} {cs : List (Str × Str)} (h : XL X es cs) : ∃ us, NmL X es us ∧ (∀ c0 f0 C0, (c0, f0) ∈ cs → X.mg c0 = some (.ref C0) → Value.ref C0 ∈ us ∧ XCl X.K c0 f0 C0) ∧ ∀ c f C, XCl X.K c f C → ∀ u ∈ us, PySem.W.exmOne X.K (.ref C) u = some (u == .ref C) := by
  induction h with
  | nil => exact ⟨[], .nil, fun _ _ _ h => by simp at h, fun _ _ _ _ u h => by simp at h⟩
  | cons xm r hg hd ih =>
    obtain ⟨us, h1, h2, h3⟩ := ih
    obtain ⟨C, hm, T⟩ := xm.ex
    refine ⟨.ref C :: us, .cons hg hm hd h1, fun c0 f0 C0 h hm0 => ?_, fun c0 f0 C0 T0 u h => ?_⟩
    · rcases List.mem_cons.mp h with e | h
      · cases e
        rw [hm] at hm0
        cases hm0
        exact ⟨List.mem_cons_self, T⟩
      · obtain ⟨q1, q2⟩ := h2 c0 f0 C0 h hm0
        exact ⟨List.mem_cons_of_mem _ q1, q2⟩
    · rcases List.mem_cons.mp h with e | h
      · rw [e]; exact exmOne_own T0 T
      · exact h3 c0 f0 C0 T0 u h
section
variable {X : Cx} {c : Sx} {M : List Nat} {wx : WXs}
theorem psd_try (i j : Nat) {cs : List (Str × Str)} {n m : Str} {kt : Nat} {es : List Expr} {body : List Stmt} {tp p1 p2 p3 pos pos' : Pos} {sv : Sv} (hN : X.N.Nodup) (hx : XL X es cs)
    (hb : ∀ (W : WX) (pn : List (Addr × Obj)) (xe : Value → Shared → Prop), L2.Takes (X.tr pn xe) W → PSsD (X.tr pn xe) ⟨W, c.fr, c.rs, some M, c.m0⟩ M M body sv)
    (hij : i ≠ j := by decide) (hMi : M.contains i = false := by rfl) (hMj : M.contains j = false := by rfl) (hri : c.rs.contains i = false := by rfl) (hrj : c.rs.contains j = false := by rfl)
    (hl : cs.length ≤ 1000 := by decide) (hs : X.stack = X.env :: X.outer := by rfl) (hf : X.env.frame = some X.env.locals := by rfl) (hex : X.ex = [] := by rfl) (hi : X.N[i]? = some n := by rfl) (hln : X.env.kindOf n = some .local := by rfl) (hvn : X.env.scope.names.lookup n = some .local := by rfl)
    (hj : X.N[j]? = some m := by rfl) (hlm : X.env.scope.names.lookup m = some .local := by rfl) (hdn : (n == ("__debug__" : Str)) = false := by decide) (hdc : (n == ("__classdict__" : Str)) = false := by decide)
    (hsw : ∀ a pn, swapsWith (.Name n p2) (some (.Name m p1)) p3.line (X.suite a pn).env = pure false := by intro _ _; rfl) :
    PSD X c M M (.Try body [.ExceptHandler (some (.Tuple es kt tp)) (some n) [.Assign [.Name m p1] (.Name n p2) p3] pos'] [] [] pos) (sTry i j cs sv) := by
  obtain ⟨us, hn, hin, hex1⟩ := hx.nm
  have ni : i ∉ M := by simpa using hMi
  have nj : j ∉ M := by simpa using hMj
  refine ps_imp (ps_keep (tb := fun W => tDS X.K X.mg ⟨W, c.fr, c.rs, some M, c.m0⟩ M M sv) hs hf hex hN hi hln hvn hj hlm hdn hdc hn (by rw [hx.len]; exact hl) hsw hb) fun D σ H ⟨δ, b, B, L, f⟩ => ⟨δ, b, ⟨B.z, B.rf, B.m0⟩, L, ?_⟩
  unfold sTry at f
  cases e : sv δ with
  | bad => rw [e] at f; exact f
  | nx δ' => rw [e] at f; exact f
  | rt d δ' => rw [e] at f; exact f
  | exc k g x δ' =>
    rw [e] at f
    dsimp only at f
    by_cases hk : cs.contains (k, g) = true
    · rw [if_pos hk] at f
      intro cls dd σ' H' Mr hMr L' ex
      obtain rfl : Mr = M := hMr M rfl
      obtain ⟨C, dx, v, hmg, rfl, rfl, nb, hdx, rv, lf⟩ := ex
      obtain ⟨hu, T⟩ := hin k g C (by simpa using hk) hmg
      refine ⟨C, dx, fun u => u == .ref C, rfl, rfl, hex1 k g C T, List.any_eq_true.mpr ⟨_, hu, by simp⟩, fun a na => ?_⟩
      have ext := Ext.upd (o := XO a C dx) na
      have L1 := L'.ext ext
      have sa : Sb Mr b σ' a := L'.nw (fun _ h => h) na
      have sd : Sb Mr b σ' dx := L'.sbX nb hdx fun xs z => by cases z
      have xv : XV X.K (Sb Mr b σ') (upd H' a (XO a C dx)) (.ref a) (xD k g x) := ⟨a, C, dx, v, k, g, x, rfl, rfl, sa, upd_same, sd, ext _ _ hdx, ((Rp.free lf rv : Rp X.K (Sb Mr b σ') H' v x)).ext (fun _ h => h) ext, lf, T⟩
      have L2' := L1.setS (i := j) (.inr xv) (fun q hq z => by
        have := B.rf q hq
        rw [z] at this
        simp [this] at hrj)
      rw [del_out nj] at L2'
      have L3 := L2'.setN ni (fun q hq z => by
        have := B.rf q hq
        rw [z] at this
        simp [this] at hri)
      have f' : ∀ σ1 H1, Loc X.K Mr b σ1 H1 ((δ'.set j (some (xD k g x))).set i none) → D.nx σ1 H1 := f
      have es : (((σ'.set i (some (.ref a))).set j (some (.ref a))).set i none) = (σ'.set j (some (.ref a))).set i none := by
        rw [List.set_comm _ _ hij, List.set_set]
      rw [es]
      exact f' _ _ L3
    · rw [if_neg hk] at f
      exact f.elim
end
/-! ### a caught error in a slot -/
def xAt (i : Nat) (δ : Env) : Option (Option (Str × Str × PyData)) := match δ[i]? with
  | some (some .none) => some none
  | some (some (.dict [(.none, .tuple [.str c, .str f, x])])) => some (some (c, f, x))
  | _ => none
theorem xAt_none {i : Nat} {δ : Env} (h : xAt i δ = some none) : δ[i]? = some (some .none) := by
  unfold xAt at h
  split at h
  · assumption
  · cases h
  · cases h
theorem xAt_some {i : Nat} {δ : Env} {c f : Str} {x : PyData} (h : xAt i δ = some (some (c, f, x))) : δ[i]? = some (some (xD c f x)) := by
  unfold xAt at h
  split at h
  · cases h
  · cases h; assumption
  · cases h
section
variable {K : PySem.W.Frag} {M : List Nat} {b : Bs} {σ : L2.St} {H : Hp} {δ : Env} {i : Nat}
theorem Loc.xNo (L : Loc K M b σ H δ) (nM : i ∉ M) (h : xAt i δ = some none) : σ[i]? = some (some .non) := by
  obtain ⟨v, e, r⟩ := getSlotI (L.imm i nM) (xAt_none h) rfl
  cases r
  exact e
theorem Loc.xEx {c f : Str} {x : PyData} (L : Loc K M b σ H δ) (nM : i ∉ M) (h : xAt i δ = some (some (c, f, x))) : ∃ (a C dx : Addr) (y : V), σ[i]? = some (some (.ref a)) ∧ H a = some (XO a C dx) ∧ H dx = some (.xd [(f, y)]) ∧ Rp K (Sb M b σ) H y x ∧ lfree x = true ∧ XCl K c f C := by
  have q := L.imm i nM
  rw [xAt_some h] at q
  cases e : σ[i]? with
  | none => rw [e] at q; exact q.elim
  | some o =>
    rw [e] at q
    cases o with
    | none => exact q.elim
    | some v =>
      rcases (show RpS K _ H v (xD c f x) from q) with q | ⟨a, C, dx, y, c', f', x', rfl, e2, _, ha, _, hd, r, l, T⟩
      · exact absurd q (by unfold xD; intro z; cases z)
      · injection e2 with e2
        injection e2 with e2 _
        injection e2 with _ e2
        injection e2 with e2
        injection e2 with e3 e2
        injection e3 with e3
        injection e2 with e4 e2
        injection e4 with e4
        injection e2 with e5 _
        subst e3 e4 e5
        exact ⟨a, C, dx, y, rfl, ha, hd, r, l, T⟩
end
def eIsX (i : Nat) (ts : List XT) : Ev := fun δ => match xAt i δ with
  | some none => .ok (.bool false) δ
  | some (some q) => .ok (.bool (ts.any (xIs q.1))) δ
  | none => .bad
def tXNo (i : Nat) : Env → R Bool := fun δ => match xAt i δ with
  | some none => .ok true δ
  | some (some _) => .ok false δ
  | none => .bad
def tXNt (i : Nat) : Env → R Bool := fun δ => match xAt i δ with
  | some none => .ok false δ
  | some (some _) => .ok true δ
  | none => .bad
def eXF (i : Nat) (f : Str) : Ev := fun δ => match xAt i δ with
  | some (some q) => if q.2.1 = f then .ok q.2.2 δ else .bad
  | _ => .bad
theorem TgL.len {X : Cx} {es : List Expr} {vs : List V} {us : List Value} {ts : List XT} (h : TgL X es vs us ts) : vs.length = es.length := by
  induction h with
  | nil => rfl
  | own _ _ _ _ _ ih => rw [List.length_cons, List.length_cons, ih]
  | blt _ _ _ _ _ _ _ _ ih => rw [List.length_cons, List.length_cons, ih]
section
variable {X : Cx} {M : List Nat} {wx : WXs}
theorem pd_isX1 (i : Nat) {n : Str} {e : Expr} {ts : List XT} {p q pos : Pos} (hT : Tg X [e] ts) (hmi : X.mg "isinstance" = none) (hM : M.contains i = false := by rfl) (hN : X.N[i]? = some n := by rfl) (hv : Vis X.env.scope n := by first | exact Or.inl rfl | exact Or.inr (Or.inl rfl) | exact Or.inr (Or.inr rfl))
    (hd : (n == ("__debug__" : Str)) = false := by decide) (hcd : (n == ("__classdict__" : Str)) = false := by decide) (hgi : Gl X "isinstance" := by rfl) (hs1 : starEach [e] X.env = (false, eval e X.env) :: starEach [] X.env := by rfl)
    (hs : starEach [.Name n q, e] X.env = (false, eval (.Name n q) X.env) :: starEach [e] X.env := by rfl) (hpl : (backTo pos (starEach [e] X.env)).any (·.1) = false := by rfl) :
    PD X wx M [] [] (.Call (.Name "isinstance" p) [.Name n q, e] [] pos) (eIsX i ts) := by
  obtain ⟨vs, us, hT⟩ := hT.ex
  have nM : i ∉ M := by simpa using hM
  have non := hT.non
  have exc := fun {c f : Str} {C : Addr} (T : XCl X.K c f C) => hT.exc T
  obtain ⟨v, u, rfl, rfl, k, pe⟩ := hT.one
  refine pe_imp (pe_callB call_isW hgi hmi PyProof.Rows.boot_isinstance (pa_cons (pe_var hN hv hd hcd) (pa_cons pe pa_nil hs1) hs) (by decide) (by decide) hs hpl) fun σ H Q ⟨δ, b, L, fin⟩ => ?_
  unfold eIsX at fin
  cases e1 : xAt i δ with
  | none => rw [e1] at fin; exact fin.elim
  | some o =>
    rw [e1] at fin
    cases o with
    | none => exact ⟨_, L.xNo nM e1, .inl ⟨.non, v, _, u, false, rfl, k, rp_ty (K := X.K) (S := fun _ => True) (d := .none) .non, kitAny_one non, fin _ H ⟨L, Gr.refl _ _ _, .bl _⟩⟩⟩
    | some w =>
      obtain ⟨c, f, x⟩ := w
      obtain ⟨a, C, dx, y, e2, ha, hdx, r, l, T⟩ := L.xEx nM e1
      exact ⟨_, e2, .inr (.inr ⟨a, C, dx, _, c, f, v, _, rfl, ha, hdx, T, .inl ⟨u, k, kitAny_one (exc T)⟩, fin _ H ⟨L, Gr.refl _ _ _, .bl _⟩⟩)⟩
theorem pd_isXT (i : Nat) {n : Str} {es : List Expr} {ts : List XT} {kt : Nat} {p q tp pos : Pos} (hT : Tg X es ts) (hmi : X.mg "isinstance" = none) (hlen : es.length ≤ 1000 := by decide) (hM : M.contains i = false := by rfl) (hN : X.N[i]? = some n := by rfl) (hv : Vis X.env.scope n := by first | exact Or.inl rfl | exact Or.inr (Or.inl rfl) | exact Or.inr (Or.inr rfl))
    (hd : (n == ("__debug__" : Str)) = false := by decide) (hcd : (n == ("__classdict__" : Str)) = false := by decide) (hgi : Gl X "isinstance" := by rfl) (hs1 : starEach [.Tuple es kt tp] X.env = (false, eval (.Tuple es kt tp) X.env) :: starEach [] X.env := by rfl)
    (hs : starEach [.Name n q, .Tuple es kt tp] X.env = (false, eval (.Name n q) X.env) :: starEach [.Tuple es kt tp] X.env := by rfl) (hpl : (backTo pos (starEach [.Tuple es kt tp] X.env)).any (·.1) = false := by rfl) :
    PD X wx M [] [] (.Call (.Name "isinstance" p) [.Name n q, .Tuple es kt tp] [] pos) (eIsX i ts) := by
  obtain ⟨vs, us, hT⟩ := hT.ex
  have nM : i ∉ M := by simpa using hM
  have vl := hT.len
  refine pe_imp (pe_callB call_isW hgi hmi PyProof.Rows.boot_isinstance (pa_cons (pe_var hN hv hd hcd) (pa_cons (pe_tup hT.pa) pa_nil hs1) hs) (by decide) (by decide) hs hpl) fun σ H Q ⟨δ, b, L, fin⟩ => ?_
  have hsz : vs.length ≤ sizeLine := by rw [vl, sizeLine_eq]; omega
  unfold eIsX at fin
  cases e1 : xAt i δ with
  | none => rw [e1] at fin; exact fin.elim
  | some o =>
    rw [e1] at fin
    cases o with
    | none =>
      refine ⟨_, L.xNo nM e1, hsz, fun T' hT' => ?_⟩
      have ex : Ext H (upd H T' (.tup vs)) := Ext.upd hT'
      exact .inr (.inl ⟨.non, T', vs, _, us, false, rfl, upd_same, hT.cls, rp_ty (K := X.K) (S := fun _ => True) (d := .none) .non, hT.non, fin _ _ ⟨L.ext ex, Gr.ext ex, .bl _⟩⟩)
    | some w =>
      obtain ⟨c, f, x⟩ := w
      obtain ⟨a, C, dx, y, e2, ha, hdx, r, l, T⟩ := L.xEx nM e1
      refine ⟨_, e2, hsz, fun T' hT' => ?_⟩
      have ex : Ext H (upd H T' (.tup vs)) := Ext.upd hT'
      exact .inr (.inr ⟨a, C, dx, _, c, f, .ref T', _, rfl, ex _ _ ha, ex _ _ hdx, T, .inr ⟨T', vs, us, rfl, upd_same, hT.cls, hT.exc T⟩, fin _ _ ⟨L.ext ex, Gr.ext ex, .bl _⟩⟩)
theorem ptd_xNo (i : Nat) {n : Str} {p q pos : Pos} {kc : Nat} (hM : M.contains i = false := by rfl) (hN : X.N[i]? = some n := by rfl) (hv : Vis X.env.scope n := by first | exact Or.inl rfl | exact Or.inr (Or.inl rfl) | exact Or.inr (Or.inr rfl))
    (hd : (n == ("__debug__" : Str)) = false := by decide) (hcd : (n == ("__classdict__" : Str)) = false := by decide) (hm : behindInMarks .Is (.Constant .none kc q) = false := by first | exact nomark _ | rfl) : PTD X wx M [] (.Compare (.Name n p) [.Is] [.Constant .none kc q] pos) (tXNo i) := by
  have nM : i ∉ M := by simpa using hM
  refine pt_imp (pt_cmpR op_isD (pe_var hN hv hd hcd) pe_non hm) fun σ H Q ⟨δ, b, L, fin⟩ => ?_
  unfold tXNo at fin
  cases e1 : xAt i δ with
  | none => rw [e1] at fin; exact fin.elim
  | some o =>
    rw [e1] at fin
    cases o with
    | none => exact ⟨_, L.xNo nM e1, .inl ⟨rfl, true, by simp, fin H L (Gr.refl _ _ _)⟩⟩
    | some w =>
      obtain ⟨c, f, x⟩ := w
      obtain ⟨a, C, dx, y, e2, _⟩ := L.xEx nM e1
      exact ⟨_, e2, .inl ⟨rfl, false, by simp, fin H L (Gr.refl _ _ _)⟩⟩
theorem pd_xF (i : Nat) {n f : Str} {p pos : Pos} (hM : M.contains i = false := by rfl) (hN : X.N[i]? = some n := by rfl) (hv : Vis X.env.scope n := by first | exact Or.inl rfl | exact Or.inr (Or.inl rfl) | exact Or.inr (Or.inr rfl))
    (hd : (n == ("__debug__" : Str)) = false := by decide) (hcd : (n == ("__classdict__" : Str)) = false := by decide) (hb : attributeBase (.Name n p) f X.env (eval (.Name n p) X.env) = eval (.Name n p) X.env := by rfl) : PD X wx M [] [] (.Attribute (.Name n p) f pos) (eXF i f) := by
  have nM : i ∉ M := by simpa using hM
  refine ⟨fun pins s σ H Q I ⟨δ, b, L, fin⟩ => ?_⟩
  unfold eXF at fin
  cases e1 : xAt i δ with
  | none => rw [e1] at fin; exact fin.elim
  | some o =>
    rw [e1] at fin
    cases o with
    | none => exact fin.elim
    | some w =>
      obtain ⟨c, g, x⟩ := w
      dsimp only at fin
      by_cases hg : g = f
      · rw [if_pos hg] at fin
        subst hg
        obtain ⟨a, C, dx, y, e2, ha, hdx, r, l, T⟩ := L.xEx nM e1
        refine attr_of hb (thn ((pe_var (X := X) (pos := p) hN hv hd hcd).run pins s σ H (fun v H1 => v = .ref a ∧ H1 = H) I ⟨_, e2, rfl, rfl⟩) fun u s1 ⟨v, H1, I1, rv, ev, eh⟩ => ?_)
        subst ev eh
        cases (show u = Value.ref a from rv)
        obtain ⟨oe, od, J, ho, mA, hl, hr⟩ := inst_X I1 ha hdx
        obtain ⟨z, hz, rz⟩ := RelO.some_of (v := y) (o := mA g) (by
          have q := hr g
          rw [show List.lookup g [(g, y)] = some y by simp [List.lookup]] at q
          exact q)
        obtain ⟨cd, h1, h2, h3⟩ := T.cd
        exact PySem.HandSPX.exc_get I1.kIn J T.ga T.gg T.sub (PySem.W.findObj_own (by unfold PySem.W.hasDictIn; rw [h1]; exact h3) T.no rfl (by rw [hl, hz])) (handed_of rz) ⟨y, H1, I1.tok _, rz, fin y H1 ⟨L, Gr.refl _ _ _, r.mono (fun _ h => .inr h) (Ext.refl _).kp⟩⟩
      · rw [if_neg hg] at fin
        exact fin.elim
end
end BD
/-! DLstr: str(int) -/
namespace BD
open PySem PySem.Spec PyProof.Rows L2
section
variable {K : PySem.W.Frag}
def strD : List PyData → Option PyData
  | [.int i] => if i.natAbs.log2 < 1920 then some (.str (toString i)) else none
  | _ => none
theorem opN_str : OpN K (fun xs H Q => ∃ i, xs = [.int i] ∧ i.natAbs.log2 < 1920 ∧ Q (.str (toString i)) H) strD := by
  intro S H xs ds d Q r e q
  unfold strD at e
  split at e
  · split at e
    · cases e
      obtain ⟨v, rfl, r1⟩ := rpa1 r
      cases r1
      exact ⟨_, rfl, by assumption, q _ H (Ext.refl H) (.str _)⟩
    · cases e
  · cases e
end
end BD
/-! a or b of new lists; o.extend(list or tuple); list.index; a room of one more -/
namespace BD
open PySem PySem.Spec PyProof.Rows L2
open PySem (sizeLine_eq)
theorem list_extend_tupW (l : Addr) (items : Array Value) (n : Nat) (b : Addr) (items2 : Array Value) (n2 : Nat) (dd2 : Option Addr) (sl2 : Array (Option Value)) (hs0 : ¬(!items.isEmpty && Builtin.List.listTooLong (items.size + items2.size)) = true) (hs1 : items.size ≤ sizeLine) (hs2 : items.size + items2.size ≤ sizeLine + 1) :
    Meets (Builtin.«list.extend» ⟨[.ref l, .ref b], []⟩) (fun _ R s => s.heap.get? l = some { cls := .type "list", dict := none, data := .seq items n, slots := #[] } ∧ s.heap.get? b = some { cls := .type "tuple", dict := dd2, data := .seq items2 n2, slots := sl2 } ∧ R (.ok (.ret Value.none)) { s with heap := s.heap.update l (Obj.mapSeq fun x => x ++ items2), toks := s.toks }) :=
  .of_wp fun prog w A R s h => by
    obtain ⟨hp, g, d, tk, os⟩ := s; obtain ⟨hl, hb, h⟩ := h; have f1 := PySem.AutoSeq1.idx_int; have f2 := PySem.AutoSeq1.sub_tuple_tuple; have f3 := PySem.AutoSeq1.sub_list_list; have f4 := PySem.AutoSeq1.sub_tuple_list; have f5 := PySem.AutoSeq1.sub_list_tuple;
    have hz' : (items ++ items2).size ≤ sizeLine + 1 := by rw [Array.size_append]; exact hs2
    wp_walk using (wpAny_updateSeq hl rfl (hz := hs1) (_hz' := hz')), wpAny_loadPart' hl, wpAny_loadPart' hb; exact ⟨_, rfl, h⟩
theorem list_extend_lstW (l : Addr) (items : Array Value) (n : Nat) (b : Addr) (items2 : Array Value) (n2 : Nat) (dd2 : Option Addr) (sl2 : Array (Option Value)) (hs0 : ¬(!items.isEmpty && Builtin.List.listTooLong (items.size + items2.size)) = true) (hs1 : items.size ≤ sizeLine) (hs2 : items.size + items2.size ≤ sizeLine + 1) :
    Meets (Builtin.«list.extend» ⟨[.ref l, .ref b], []⟩) (fun _ R s => s.heap.get? l = some { cls := .type "list", dict := none, data := .seq items n, slots := #[] } ∧ s.heap.get? b = some { cls := .type "list", dict := dd2, data := .seq items2 n2, slots := sl2 } ∧ R (.ok (.ret Value.none)) { s with heap := s.heap.update l (Obj.mapSeq fun x => x ++ items2), toks := s.toks }) :=
  .of_wp fun prog w A R s h => by
    obtain ⟨hp, g, d, tk, os⟩ := s; obtain ⟨hl, hb, h⟩ := h; have f1 := PySem.AutoSeq1.idx_int; have f2 := PySem.AutoSeq1.sub_tuple_tuple; have f3 := PySem.AutoSeq1.sub_list_list; have f4 := PySem.AutoSeq1.sub_tuple_list; have f5 := PySem.AutoSeq1.sub_list_tuple;
    have hz' : (items ++ items2).size ≤ sizeLine + 1 := by rw [Array.size_append]; exact hs2
    wp_walk using (wpAny_updateSeq hl rfl (hz := hs1) (_hz' := hz')), wpAny_loadPart' hl, wpAny_loadPart' hb; exact ⟨_, rfl, h⟩
section
variable {X : Cx} {wx : WXs} {M W U U1 U2 : List Nat} {K : PySem.W.Frag}
def rExt2 (K : PySem.W.Frag) : V → List V → Hp → VK → Prop := fun x vs H Q => ∃ l b xs zs, x = .ref l ∧ vs = [.ref b] ∧ H l = some (.lst xs) ∧ (SqL K H b zs ∨ SqT K H b zs) ∧ xs.length + zs.length ≤ sizeLine ∧ Q .non (upd H l (.lst (xs ++ zs)))
theorem mt_ext2 : MtR X "list.extend" (rExt2 X.K) := by
  intro pins s σ H x vs v us Q I rx rv h
  obtain ⟨l, b, xs, zs, rfl, rfl, hH, hB, hz, q⟩ := h
  cases rx
  obtain ⟨u, rfl, ru⟩ := rv.one
  cases ru
  obtain ⟨z, its, n, r, hl, e⟩ := I.lstM hH
  have fin : ∀ its2 : List Value, Vals zs its2 → ∀ {g : Heap}, g = s.heap.update l (Obj.mapSeq fun x => x ++ its2.toArray) → EP X pins σ Q .none { s with heap := g } := fun its2 r2 g hg => by
    subst hg
    exact ⟨.non, _, I.lset (its' := its ++ its2) hH e (by simp) (r.append r2) (by rw [List.length_append]; omega), rfl, q⟩
  rcases hB with hB | hB
  · obtain ⟨its2, r2, p2, _⟩ := I.list hB
    obtain ⟨⟨cls2, dd2, data2, sl2⟩, ho2, hc2, n2, hd2⟩ := id p2.isList
    simp only at hc2 hd2
    subst hc2 hd2
    have hl2 := r2.length
    have hsz : its.toArray.size + its2.toArray.size ≤ sizeLine := by rw [List.size_toArray, List.size_toArray]; omega
    have hlong : ¬ (!its.toArray.isEmpty && Builtin.List.listTooLong (its.toArray.size + its2.toArray.size)) = true := by
      rw [notLongL hsz, Bool.and_false]
      exact Bool.false_ne_true
    exact call_meets F.slot_list_extend ⟨_, e, rfl⟩ F.entry_list_extend (F.args_list_extend_2 _ _)
      (list_extend_lstW l its.toArray n b its2.toArray n2 dd2 sl2 hlong (by rw [List.size_toArray]; omega) (by omega)) ⟨e, ho2, fin its2 r2 rfl⟩
  · obtain ⟨its2, r2, p2, _⟩ := I.tuple hB
    obtain ⟨⟨cls2, dd2, data2, sl2⟩, ho2, hc2, n2, hd2⟩ := id p2
    simp only at hc2 hd2
    subst hc2 hd2
    have hl2 := r2.length
    have hsz : its.toArray.size + its2.toArray.size ≤ sizeLine := by rw [List.size_toArray, List.size_toArray]; omega
    have hlong : ¬ (!its.toArray.isEmpty && Builtin.List.listTooLong (its.toArray.size + its2.toArray.size)) = true := by
      rw [notLongL hsz, Bool.and_false]
      exact Bool.false_ne_true
    exact call_meets F.slot_list_extend ⟨_, e, rfl⟩ F.entry_list_extend (F.args_list_extend_2 _ _)
      (list_extend_tupW l its.toArray n b its2.toArray n2 dd2 sl2 hlong (by rw [List.size_toArray]; omega) (by omega)) ⟨e, ho2, fin its2 r2 rfl⟩
def fExtend : List PyData → List PyData → Option (PyData × List PyData)
  | xs, [.list ys] => if xs.length + ys.length ≤ 16777216 then some (.none, xs ++ ys) else none
  | xs, [.tuple ys] => if xs.length + ys.length ≤ 16777216 then some (.none, xs ++ ys) else none
  | _, _ => none
theorem opMu_ext : OpMu K (rExt2 K) fExtend := by
  intro S H p vs xs ds args d ds' Q hp rv nS ra e q
  unfold fExtend at e
  split at e
  · split at e
    · cases e
      rename_i hl
      obtain ⟨v, rfl, r1⟩ := rpa1 ra
      cases r1 with
      | @lst a zs _ h t => exact ⟨p, a, vs, zs, rfl, rfl, hp, .inl h.sq, by rw [rv.length, t.length, sizeLine_eq]; assumption, q .non _ .non (rv.app t)⟩
    · cases e
  · split at e
    · cases e
      rename_i hl
      obtain ⟨v, rfl, r1⟩ := rpa1 ra
      cases r1 with
      | @tup a zs _ h t => exact ⟨p, a, vs, zs, rfl, rfl, hp, .inr h, by rw [rv.length, t.length, sizeLine_eq]; assumption, q .non _ .non (rv.app t)⟩
    · cases e
  · cases e
/-- a or b, both new lists -/
theorem pfd_or {a c : Expr} {ea eb : Ev} {pos : Pos} (ha : PFD X wx M U1 a ea) (hb : PFD X wx M U2 c eb) (h1 : sb U1 M = true := by rfl) : PFD X wx M (U1 ++ U2) (.BoolOp .Or [a, c] pos) (eOr ea eb) := by
  refine pe_imp (pe_orT ha (pe_one hb)) fun σ H Q ⟨δ, b, L, fin⟩ => ⟨δ, b, L, ?_⟩
  unfold eOr at fin
  cases e1 : ea δ with
  | bad => rw [e1] at fin; exact fin
  | exc c g x e' => rw [e1] at fin; exact fun cls dd H' L' g' ex => fin cls dd H' L' (g'.mono inl_app) ex
  | ok d δ1 =>
    rw [e1] at fin
    intro v H1 ⟨⟨p, vs, ds, e2, e3, np, hp, L1, r⟩, g⟩
    subst e2 e3
    simp only [R.bind] at fin
    have rp : Rp X.K (Sb M b σ) H1 (.ref p) (.list ds) := .lst (.inl ⟨L.hid np L1, .inl hp⟩) (r.mono (fun q h => ⟨h.1, fun z => h.2.1 (.inl z), h.2.2⟩) (Ext.refl _).kp)
    cases e2 : truD (.list ds) with
    | none => rw [e2] at fin; exact fin.elim
    | some k =>
      rw [e2] at fin
      refine ⟨k, tru_of rp.dp e2, ?_⟩
      cases k with
      | true =>
        simp only [if_true]
        exact fin _ H1 ⟨⟨p, vs, ds, rfl, rfl, np, hp, L1, r⟩, g.mono inl_app⟩
      | false =>
        simp only [Bool.false_eq_true, if_false]
        refine ⟨δ1, b, L1.unhide, ?_⟩
        cases e3 : eb δ1 with
        | bad => rw [e3] at fin; exact fin
        | exc c gg x e' => rw [e3] at fin; exact fun cls dd H' L' g' ex => fin cls dd H' L' (g.trans g' inl_app inr_app) ex
        | ok d2 δ2 =>
          rw [e3] at fin
          intro v2 H2 ⟨⟨p2, vs2, ds2, f2, f3, np2, hp2, L2, r2⟩, g2⟩
          exact fin v2 H2 ⟨⟨p2, vs2, ds2, f2, f3, g.none L1.unhide (sb_of h1) np2, hp2, L2, r2⟩, g.trans g2 inl_app inr_app⟩
theorem room_u1 {k : Nat} {A : Around} (hr : Room k A) : A.units + 65 < cLine := by have := hr.un; omega
def idxF : PyData → List PyData → Option PyData
  | .list xs, [d] => if (SeqAt.shaped (.list xs) && SeqAt.shaped d) = true then (xs.findIdx? fun y => PyData.eqv y d).map fun j => .int (j : Nat) else none
  | _, _ => none
theorem opMt_index : OpMt K (rIndexD K) idxF := by
  intro S H x xs dx ds d Q rx rxs e q
  unfold idxF at e
  split at e
  · rename_i ys z
    split at e
    · rename_i h
      rw [Bool.and_eq_true] at h
      cases e1 : ys.findIdx? (fun y => PyData.eqv y z) with
      | none => rw [e1] at e; cases e
      | some j =>
        rw [e1] at e
        cases e
        obtain ⟨v, rfl, r1⟩ := rpa1 rxs
        have dp := rx.dp
        cases rx with
        | @lst a vs _ hs ht =>
          obtain ⟨hj, h1, h2⟩ := List.findIdx?_eq_some_iff_getElem.mp e1
          exact ⟨a, v, z, ys, j, ys[j], rfl, rfl, dp, r1.dp, h.1, h.2, List.getElem?_eq_getElem hj, h1, fun m z' hm hz => by
            have hm' : m < ys.length := by omega
            rw [List.getElem?_eq_getElem hm'] at hz
            cases hz
            have := h2 m hm
            simpa using this, q _ H (Ext.refl H) (.int _)⟩
    · cases e
  · cases e
end
end BD
namespace BD
open PySem PySem.Spec PyProof.Rows L2
/-- a module's constant -/
def MC (mg : Str → Option Value) (x : Str) (d : PyData) : Prop := ∃ u v, mg x = some u ∧ cV d = some v ∧ RelV v u
theorem pd_mc {X : Cx} {wx : WXs} {M : List Nat} {x : Str} {pos : Pos} {d : PyData} (h : MC X.mg x d) (hg : Gl X x := by rfl) (hd : (x == ("__debug__" : Str)) = false := by decide) : PD X wx M [] [] (.Name x pos) (eC d) := by
  obtain ⟨u, v, h1, h2, h3⟩ := h
  exact pd_glob d h1 h3 h2 hg hd
end BD
/-! a call by a door: [f, g, ..][i](e, ..) -/
namespace BD
open PySem PySem.Spec PyProof.Rows L2
open PySem (sizeLine_eq)
section
variable {X : Cx} {wx : WXs} {M W U U1 : List Nat} {k j n : Nat}
inductive Doors (X : Cx) (k n : Nat) : List Expr → List Addr → List (List PyData → FR) → Prop
  | nil : Doors X k n [] [] []
  | cons {x : Str} {p : Pos} {f : Addr} {fd : FuncData} {ps : List Str} {fr : Bool} {g : List PyData → FR} {es : List Expr} {fs : List Addr} {gs : List (List PyData → FR)} (F : FnG X.prog X.w X.K X.mg X.base k f fd ps (SpP X.K X.mg n fr g)) (hm : X.mg x = some (.ref f)) (hk : PySem.W.keepIn X.K (.ref f) = true) (hb : Binds X.K fd ps [])
      (hg : Gl X x) (hd : (x == ("__debug__" : Str)) = false) (hs : starEach (.Name x p :: es) X.env = (false, eval (.Name x p) X.env) :: starEach es X.env) (r : Doors X k n es fs gs) : Doors X k n (.Name x p :: es) (f :: fs) (g :: gs)
def DoorsD (X : Cx) (k n : Nat) (es : List Expr) (gs : List (List PyData → FR)) : Prop := ∃ fs, Doors X k n es fs gs
theorem dr_nil : DoorsD X k n [] [] := ⟨[], .nil⟩
theorem dr_cons {x : Str} {st : Stmt} {ps : List Str} {fr : Bool} {g : List PyData → FR} {es : List Expr} {gs : List (List PyData → FR)} {p : Pos} (D : DP X.prog X.w X.K X.mg X.base j x st ps n fr g) (hj : j ≤ k) (r : DoorsD X k n es gs)
    (hg : Gl X x := by rfl) (hd : (x == ("__debug__" : Str)) = false := by decide) (hs : starEach (.Name x p :: es) X.env = (false, eval (.Name x p) X.env) :: starEach es X.env := by rfl) : DoorsD X k n (.Name x p :: es) (g :: gs) := by
  obtain ⟨f, fd, F, h1, h2, h3⟩ := D.ex
  obtain ⟨fs, r⟩ := r
  exact ⟨f :: fs, .cons (F.mono hj) h1 h2.kp h3 hg hd hs r⟩
theorem Doors.pa : ∀ {es fs gs}, Doors X k n es fs gs → PA X es (fun σ H Q => Q (fs.map V.ref) H)
  | _, _, _, .nil => pa_imp pa_nil fun σ H Q h => h
  | _, _, _, .cons F hm hk hb hg hd hs r => pa_imp (pa_cons (pe_glob (v := V.ref _) hg hm rfl hd) r.pa hs) fun σ H Q h => h
theorem Doors.len : ∀ {es fs gs}, Doors X k n es fs gs → fs.length = gs.length
  | _, _, _, .nil => rfl
  | _, _, _, .cons F hm hk hb hg hd hs r => by simp [r.len]
/-- whoever stands at a place -/
theorem Doors.at_ : ∀ {es fs gs}, Doors X k n es fs gs → ∀ {i : Nat} {g : List PyData → FR}, gs[i]? = some g → ∃ f fd ps fr, fs[i]? = some f ∧ FnG X.prog X.w X.K X.mg X.base k f fd ps (SpP X.K X.mg n fr g) ∧ PySem.W.keepIn X.K (.ref f) = true ∧ Binds X.K fd ps []
  | _, _, _, .nil, i, g, h => by simp at h
  | _, _, _, .cons F hm hk hb hg hd hs r, 0, g, h => by
    simp at h
    subst h
    exact ⟨_, _, _, _, rfl, F, hk, hb⟩
  | _, _, _, .cons F hm hk hb hg hd hs r, i + 1, g, h => by
    obtain ⟨f, fd, ps, fr, e, q⟩ := r.at_ (i := i) (g := g) (by simpa using h)
    exact ⟨f, fd, ps, fr, by simpa using e, q⟩
/-- a call of what an expression gives -/
theorem pe_callE {fe : Expr} {tf : TE} {wx : WXs} {e : Expr} {es : List Expr} {t : TA} {pos : Pos} (hf : PE X fe tf) (hr : RoomG k X.A) (tk : Takes X wx) (ha : PA X (e :: es) t)
    (he : starEach (e :: es) X.env = (false, eval e X.env) :: starEach es X.env := by rfl) (hpl : (backTo pos (starEach es X.env)).any (·.1) = false := by rfl)
    (ht : eval (.Call fe (e :: es) [] pos) X.env = (do callWith pos (← eval fe X.env) [] (backTo pos (starEach (e :: es) X.env)) (backToKw pos (keywordEach [] X.env))) := by rfl) :
    PE X (.Call fe (e :: es) [] pos) (fun σ H Q => tf σ H fun v H1 => ∃ f fd ps fr g, v = .ref f ∧ FnG X.prog X.w X.K X.mg X.base k f fd ps (SpP X.K X.mg n fr g) ∧ PySem.W.keepIn X.K (.ref f) = true ∧ Binds X.K fd ps [] ∧ t σ H1 fun vs H2 => SpP X.K X.mg n fr g vs H2 Q (WE wx σ)) := by
  refine ⟨fun pins s σ H Q I want => ?_⟩
  refine Call_ (thn (hf.run pins s σ H _ I want) fun u s1 ⟨v, H1, I1, rx, f, fd, ps, fr, g, ev, F, hk, hb, q⟩ => ?_) ht
  subst ev
  obtain rfl : u = Value.ref f := rx
  refine PySem.W.callWith_K (h₀ := X.base) I1.ok.mod.kin hk (thn (ha.run pos pins s1 σ H1 _ I1 q) fun us s2 ⟨vs, H2, I2, r, q⟩ => ⟨I2.kIn, ?_⟩) he hpl
  have b := hb s2 us I2.kIn (by rw [List.append_nil, ← r.length]; exact F.len _ _ _ _ q)
  rw [List.append_nil] at b
  refine wpAny_call (codeAny_mono (F.go X.A X.stack s2 H2 ⟨us, []⟩ us vs Q (WE wx σ) hr I2.env0 b r q) fun res s3 got => ?_)
  cases res with
  | error er => exact passAt tk σ pins H2 s2 er s3 I2 got
  | ok fl =>
    cases fl with
    | ret u => exact I2.after got
    | next => exact False.elim got
    | brk => exact False.elim got
    | cont => exact False.elim got
def dAt (gs : List (List PyData → FR)) (i : Int) : Option (List PyData → FR) := if 0 ≤ i then gs[i.toNat]? else none
def eDoor (n : Nat) (gs : List (List PyData → FR)) (iev : Ev) (evs : Env → R (List PyData)) : Ev := fun δ => (iev δ).bind fun d δ1 => match d with
  | .int i => match dAt gs i with
    | some g => eCallP n none g evs δ1
    | none => .bad
  | _ => .bad
theorem pd_door {xs : List Expr} {gs : List (List PyData → FR)} {ie : Expr} {iev : Ev} {e : Expr} {es : List Expr} {evs : Env → R (List PyData)} {p1 p2 pos : Pos} (Ds : DoorsD X k n xs gs) (hr : RoomG k X.A) (tk : Takes X wx) (hi : PD X wx M [] U1 ie iev) (ha : PAD X wx M W U (e :: es) evs)
    (hl : decide (gs.length ≤ 1000) = true := by rfl) (hU : sb U1 M = true := by rfl) (hs : PlainIx ie := by exact fun _ _ => rfl)
    (he : starEach (e :: es) X.env = (false, eval e X.env) :: starEach es X.env := by rfl) (hpl : (backTo pos (starEach es X.env)).any (·.1) = false := by rfl)
    (ht : eval (.Call (.Subscript (.List xs p1) ie p2) (e :: es) [] pos) X.env = (do callWith pos (← eval (.Subscript (.List xs p1) ie p2) X.env) [] (backTo pos (starEach (e :: es) X.env)) (backToKw pos (keywordEach [] X.env))) := by rfl) :
    PD X wx M W (U1 ++ U) (.Call (.Subscript (.List xs p1) ie p2) (e :: es) [] pos) (eDoor n gs iev evs) := by
  obtain ⟨fs, Ds⟩ := Ds
  refine pe_imp (pe_callE (n := n) (pe_ix ix_seq (pe_lst Ds.pa) hi hs) hr tk ha he hpl ht) fun σ H Q ⟨δ, b, L, fin⟩ => ?_
  have hl := of_decide_eq_true hl
  refine ⟨by rw [List.length_map, Ds.len, sizeLine_eq]; omega, fun p np => ⟨δ, b, L.ext (Ext.upd np), ?_⟩⟩
  unfold eDoor at fin
  cases e1 : iev δ with
  | bad => rw [e1] at fin; exact fin
  | exc c g x e' =>
    rw [e1] at fin
    exact fun cls dd H' L' g' ex => fin cls dd H' L' ((Gr.ext (Ext.upd np)).trans g' (fun _ (h : _ ∈ ([] : List Nat)) => by simp at h) inl_app) ex
  | ok d δ1 =>
    rw [e1] at fin
    intro v H1 q
    simp only [R.bind] at fin
    cases q.rp with
    | int i =>
      cases e2 : dAt gs i with
      | none => simp only [e2] at fin; exact fin.elim
      | some g =>
        simp only [e2] at fin
        unfold dAt at e2
        by_cases h0 : 0 ≤ i
        · rw [if_pos h0] at e2
          obtain ⟨f, fd, ps, fr, f1, F, hk, hb⟩ := Ds.at_ e2
          have nc : ¬ Cl U1 σ p := fun c => (L.nw (fun _ h => h) np : Sb M b σ p).1 (c.sub (sb_of hU))
          have hp : H1 p = some (.lst (fs.map V.ref)) := q.gr p _ upd_same nc
          have at1 : atI (fs.map V.ref) i = some (.ref f) := by
            obtain ⟨m, rfl⟩ : ∃ m : Nat, i = (m : Int) := ⟨i.toNat, by omega⟩
            rw [Int.toNat_natCast] at f1
            unfold atI ixN
            have hlt : m < fs.length := by
              by_cases z : m < fs.length
              · exact z
              · rw [List.getElem?_eq_none (by omega)] at f1; cases f1
            rw [if_pos (Int.natCast_nonneg _), if_pos (by rw [List.length_map]; omega)]
            simp [f1]
          refine .inl ⟨p, fs.map V.ref, i, .ref f, rfl, rfl, .inl (.inl hp), at1, f, fd, ps, fr, g, rfl, F, hk, hb, ?_⟩
          have g0 : Gr U1 σ H H1 := (Gr.ext (Ext.upd np)).trans q.gr (fun _ (h : _ ∈ ([] : List Nat)) => by simp at h) (fun _ h => h)
          refine tD_callP (n := n) (ix := none) (fr := fr) (f := g) (args := evs) ⟨δ1, b, q.loc, ?_⟩
          cases e3 : eCallP n none g evs δ1 with
          | bad => rw [e3] at fin; exact fin
          | exc c gg x e' =>
            rw [e3] at fin
            exact fun cls dd H' L' g' ex => fin cls dd H' L' (g0.trans g' inl_app inr_app) ex
          | ok d2 δ2 =>
            rw [e3] at fin
            exact fun v2 H2 q2 => fin v2 H2 ⟨q2.loc, g0.trans q2.gr inl_app inr_app, q2.rp⟩
        · rw [if_neg h0] at e2; cases e2
    | _ => exact fin.elim
end
end BD
/-! errors on the pure side -/
namespace BD
open PySem
section
variable {δ : Env}
@[simp] theorem vRaise (c f : Str) (ev : Ev) : sRaise c f ev δ = liftR (ev δ) fun d δ1 => if lfree d = true then .exc c f d δ1 else .bad := rfl
@[simp] theorem vTry (i j : Nat) (cs : List (Str × Str)) (s : Sv) : sTry i j cs s δ = (match s δ with
  | .exc c f x δ1 => if cs.contains (c, f) = true then .nx ((δ1.set j (some (xD c f x))).set i none) else .bad
  | o => o) := rfl
@[simp] theorem vFrRx (c f : Str) (x : PyData) (o : List PyData) : frR (.exc c f x o) δ = .exc c f x δ := rfl
@[simp] theorem vIsX (i : Nat) (ts : List XT) : eIsX i ts δ = (match xAt i δ with
  | some none => .ok (.bool false) δ
  | some (some q) => .ok (.bool (ts.any (xIs q.1))) δ
  | none => .bad) := rfl
@[simp] theorem vXNo (i : Nat) : tXNo i δ = (match xAt i δ with
  | some none => .ok true δ
  | some (some _) => .ok false δ
  | none => .bad) := rfl
@[simp] theorem vXF (i : Nat) (f : Str) : eXF i f δ = (match xAt i δ with
  | some (some q) => if q.2.1 = f then .ok q.2.2 δ else .bad
  | _ => .bad) := rfl
@[simp] theorem vXA0 : xAt 0 (some .none :: δ) = some none := rfl
@[simp] theorem vXA1 (c f : Str) (x : PyData) : xAt 0 (some (xD c f x) :: δ) = some (some (c, f, x)) := rfl
@[simp] theorem vXAS (i : Nat) (o : Option PyData) : xAt (i + 1) (o :: δ) = xAt i δ := rfl
end
@[simp] theorem vDAt (gs : List (List PyData → FR)) (i : Int) : dAt gs i = if 0 ≤ i then gs[i.toNat]? else none := rfl
@[simp] theorem vDoor (n : Nat) (gs : List (List PyData → FR)) (iev : Ev) (evs : Env → R (List PyData)) (δ : Env) : eDoor n gs iev evs δ = (iev δ).bind fun d δ1 => match d with
  | .int i => match dAt gs i with
    | some g => eCallP n none g evs δ1
    | none => .bad
  | _ => .bad := rfl
theorem idxF_l {xs : List PyData} {d : PyData} (h : (SeqAt.shaped (.list xs) && SeqAt.shaped d) = true) : idxF (.list xs) [d] = (xs.findIdx? fun y => PyData.eqv y d).map fun j => .int (j : Nat) := by
  show (if _ then _ else _) = _
  rw [if_pos h]
theorem tno_ {t : Env → R Bool} {δ δ1 : Env} {b : Bool} (h : t δ = .ok b δ1) : tNo t δ = .ok (!b) δ1 := by unfold tNo; rw [h]; rfl
theorem for_cons {g : PyData → Env → Option Env} {body : Sv} {d : PyData} {ds : List PyData} {δ δ1 δ2 : Env} {o : O} (h1 : g d δ = some δ1) (h2 : body δ1 = .nx δ2) (h3 : forL g body ds δ2 = o) : forL g body (d :: ds) δ = o := by
  rw [vF1, h1]
  dsimp only
  rw [h2]
  exact h3
end BD
namespace G
open PySem PySem.Spec PyProof.Rows L2 BD
def top (i : Nat) : Stmt := PySem.Challenge.pw_benchcall_k13_barred_and_no_future.main.body.getD i (.Pass ⟨0, 0, 0, 0⟩)
/-- the built-in names are not hidden -/
structure Nm (mg : Str → Option Value) : Prop where
  LookupError_ : mg "LookupError" = none
  OverflowError_ : mg "OverflowError" = none
  RuntimeError_ : mg "RuntimeError" = none
  ValueError_ : mg "ValueError" = none
  abs_ : mg "abs" = none
  all_ : mg "all" = none
  any_ : mg "any" = none
  bool_ : mg "bool" = none
  enumerate_ : mg "enumerate" = none
  int_ : mg "int" = none
  isinstance_ : mg "isinstance" = none
  len_ : mg "len" = none
  list_ : mg "list" = none
  max_ : mg "max" = none
  min_ : mg "min" = none
  range_ : mg "range" = none
  set_ : mg "set" = none
  sorted_ : mg "sorted" = none
  str_ : mg "str" = none
  sum_ : mg "sum" = none
  tuple_ : mg "tuple" = none
  zip_ : mg "zip" = none
  MOST_c : MC mg "MOST" (.int 300)
  MOST_STEPS_c : MC mg "MOST_STEPS" (.int 300)
section
variable {P : Program} {w : World} {K : PySem.W.Frag} {mg : Str → Option Value} {base : Heap}
abbrev st_OtherPeople : Stmt := inCls 0 (top 3)
theorem sc_OtherPeople : FnScope ["self", "many"] ["self", "many"] (defScope st_OtherPeople) := ⟨rfl, rfl, rfl, by decide +kernel, rfl, by decide +kernel, by decide +kernel⟩
theorem ini_OtherPeople (nm : Nm mg) (fI : Addr) (cd : Value) (A : Around) (outer : List PySem.Env) (s : Shared) (H : Hp) (E : XK) : PSs (cxOf (L2.CX P w) P w K mg base ["self", "many"] "OtherPeople.__init__" (defScope st_OtherPeople) fI cd A outer s H E) (defBody st_OtherPeople)
    (tSeq (tDrop (tBIn K "ValueError" "ValueError.__new__" [.type "ValueError", .type "Exception", .type "BaseException", .type "object"] (tCons (tVar 0) (tCons (tVar 1) tNil)))) (tOsT K "ValueError" "ValueError.__new__" [.type "ValueError", .type "Exception", .type "BaseException", .type "object"] "many" (tVar 0) (tVar 1))) :=
  pss_cons (ps_expr (pe_bInit bse_V rfl rfl nm.ValueError_ (by decide) (by decide) (by kernel_rfl) (pa_cons (pe_var (i := 0) rfl (.inl rfl)) (pa_cons (pe_var (i := 1) rfl (.inl rfl)) pa_nil)))) (pss_one (ps_osT bse_V (pe_var (i := 0) rfl (.inl rfl)) (pe_var (i := 1) rfl (.inl rfl))))
abbrev st_Barred : Stmt := inCls 0 (top 6)
theorem sc_Barred : FnScope ["self", "person"] ["self", "person"] (defScope st_Barred) := ⟨rfl, rfl, rfl, by decide +kernel, rfl, by decide +kernel, by decide +kernel⟩
theorem ini_Barred (nm : Nm mg) (fI : Addr) (cd : Value) (A : Around) (outer : List PySem.Env) (s : Shared) (H : Hp) (E : XK) : PSs (cxOf (L2.CX P w) P w K mg base ["self", "person"] "Barred.__init__" (defScope st_Barred) fI cd A outer s H E) (defBody st_Barred)
    (tSeq (tDrop (tBIn K "RuntimeError" "RuntimeError.__new__" [.type "RuntimeError", .type "Exception", .type "BaseException", .type "object"] (tCons (tVar 0) (tCons (tVar 1) tNil)))) (tOsT K "RuntimeError" "RuntimeError.__new__" [.type "RuntimeError", .type "Exception", .type "BaseException", .type "object"] "person" (tVar 0) (tVar 1))) :=
  pss_cons (ps_expr (pe_bInit bse_R rfl rfl nm.RuntimeError_ (by decide) (by decide) (by kernel_rfl) (pa_cons (pe_var (i := 0) rfl (.inl rfl)) (pa_cons (pe_var (i := 1) rfl (.inl rfl)) pa_nil)))) (pss_one (ps_osT bse_R (pe_var (i := 0) rfl (.inl rfl)) (pe_var (i := 1) rfl (.inl rfl))))
abbrev st_NoPerson : Stmt := inCls 0 (top 1)
theorem sc_NoPerson : FnScope ["self", "person"] ["self", "person"] (defScope st_NoPerson) := ⟨rfl, rfl, rfl, by decide +kernel, rfl, by decide +kernel, by decide +kernel⟩
theorem ini_NoPerson (nm : Nm mg) (fI : Addr) (cd : Value) (A : Around) (outer : List PySem.Env) (s : Shared) (H : Hp) (E : XK) : PSs (cxOf (L2.CX P w) P w K mg base ["self", "person"] "NoPerson.__init__" (defScope st_NoPerson) fI cd A outer s H E) (defBody st_NoPerson)
    (tSeq (tDrop (tBIn K "LookupError" "LookupError.__new__" [.type "LookupError", .type "Exception", .type "BaseException", .type "object"] (tCons (tVar 0) (tCons (tVar 1) tNil)))) (tOsT K "LookupError" "LookupError.__new__" [.type "LookupError", .type "Exception", .type "BaseException", .type "object"] "person" (tVar 0) (tVar 1))) :=
  pss_cons (ps_expr (pe_bInit bse_L rfl rfl nm.LookupError_ (by decide) (by decide) (by kernel_rfl) (pa_cons (pe_var (i := 0) rfl (.inl rfl)) (pa_cons (pe_var (i := 1) rfl (.inl rfl)) pa_nil)))) (pss_one (ps_osT bse_L (pe_var (i := 0) rfl (.inl rfl)) (pe_var (i := 1) rfl (.inl rfl))))
abbrev st_TooMany : Stmt := inCls 0 (top 8)
theorem sc_TooMany : FnScope ["self", "many"] ["self", "many"] (defScope st_TooMany) := ⟨rfl, rfl, rfl, by decide +kernel, rfl, by decide +kernel, by decide +kernel⟩
theorem ini_TooMany (nm : Nm mg) (fI : Addr) (cd : Value) (A : Around) (outer : List PySem.Env) (s : Shared) (H : Hp) (E : XK) : PSs (cxOf (L2.CX P w) P w K mg base ["self", "many"] "TooMany.__init__" (defScope st_TooMany) fI cd A outer s H E) (defBody st_TooMany)
    (tSeq (tDrop (tBIn K "OverflowError" "OverflowError.__new__" [.type "OverflowError", .type "ArithmeticError", .type "Exception", .type "BaseException", .type "object"] (tCons (tVar 0) (tCons (tVar 1) tNil)))) (tOsT K "OverflowError" "OverflowError.__new__" [.type "OverflowError", .type "ArithmeticError", .type "Exception", .type "BaseException", .type "object"] "many" (tVar 0) (tVar 1))) :=
  pss_cons (ps_expr (pe_bInit bse_O rfl rfl nm.OverflowError_ (by decide) (by decide) (by kernel_rfl) (pa_cons (pe_var (i := 0) rfl (.inl rfl)) (pa_cons (pe_var (i := 1) rfl (.inl rfl)) pa_nil)))) (pss_one (ps_osT bse_O (pe_var (i := 0) rfl (.inl rfl)) (pe_var (i := 1) rfl (.inl rfl))))
abbrev st_NoFuture : Stmt := inCls 0 (top 4)
theorem sc_NoFuture : FnScope ["self", "limit"] ["self", "limit"] (defScope st_NoFuture) := ⟨rfl, rfl, rfl, by decide +kernel, rfl, by decide +kernel, by decide +kernel⟩
theorem ini_NoFuture (nm : Nm mg) (fI : Addr) (cd : Value) (A : Around) (outer : List PySem.Env) (s : Shared) (H : Hp) (E : XK) : PSs (cxOf (L2.CX P w) P w K mg base ["self", "limit"] "NoFuture.__init__" (defScope st_NoFuture) fI cd A outer s H E) (defBody st_NoFuture)
    (tSeq (tDrop (tBIn K "ValueError" "ValueError.__new__" [.type "ValueError", .type "Exception", .type "BaseException", .type "object"] (tCons (tVar 0) (tCons (tVar 1) tNil)))) (tOsT K "ValueError" "ValueError.__new__" [.type "ValueError", .type "Exception", .type "BaseException", .type "object"] "limit" (tVar 0) (tVar 1))) :=
  pss_cons (ps_expr (pe_bInit bse_V rfl rfl nm.ValueError_ (by decide) (by decide) (by kernel_rfl) (pa_cons (pe_var (i := 0) rfl (.inl rfl)) (pa_cons (pe_var (i := 1) rfl (.inl rfl)) pa_nil)))) (pss_one (ps_osT bse_V (pe_var (i := 0) rfl (.inl rfl)) (pe_var (i := 1) rfl (.inl rfl))))
abbrev st__law_cells : Stmt := top 55
theorem sc__law_cells : FnScope ["_law_script", "_law_most", "_law_cells_here", "_law_k", "_law_cell"] ["_law_script", "_law_most"] (defScope st__law_cells) := ⟨rfl, rfl, rfl, by decide +kernel, rfl, by decide +kernel, by decide +kernel⟩
noncomputable def sv__law_cells : Sv :=
  (sSeq (sAsg 2 (eAppF listF (eCons (eSl (eVar 0) eNoPart (ePart (eVar 1))) eNil)))
  (sSeq (sFor (gTu (gsCons (gNm 3) (gsCons (gNm 4) gsNil))) (iEn (eSl (eVar 0) (ePart (eVar 1)) (ePart (eC (.int 63)))))
  (sSeq (sSto 2 (eBin modD (eVar 3) (eVar 1)) (eBin addD (eIxM 2 (eBin modD (eVar 3) (eVar 1))) (eBin mulD (eVar 4) (eBin addD (eVar 3) (eC (.int 2))))))
  sNil))
  (sSeq (sRet (eIf (BD.tCmp neD (eVar 2) (eApp fLst eNil)) (eVar 2) (eAppF fId (eCons (eC (.int 0)) eNil))))
  sNil)))
theorem ok__law_cells (nm : Nm mg) (A : At K mg "_law_cells" st__law_cells ["_law_script", "_law_most"])  : DP P w K mg base 1 "_law_cells" st__law_cells ["_law_script", "_law_most"] 2 true (runP 5 (sv__law_cells)) :=
  DP.make A sc__law_cells (.inr (nx_seq2 (nx_seq2 (nx_seq1 nx_ret)))) fun f cd A outer s H E hr => (
    have hu := room_u hr.rm; have hgd := hr.gd;
    (pss_Dcons (psd_asgF 2 sc__law_cells.nd (pfd_typ call_list_of opF_list nm.list_ (by rfl) (pad_cons (pd_slice (pd_var 0) pod_none (pod_some (pd_var 1))) pad_nil)))
    (pss_Dcons (psd_for (passes_of rfl) rfl (pid_enum nm.enumerate_ (pd_slice (pd_var 0) (pod_some (pd_var 1)) (pod_some pd_int))) (pgd_tup rfl (pgsd_cons (pgd_name 3 sc__law_cells.nd) (pgsd_cons (pgd_name 4 sc__law_cells.nd) pgsd_nil)) (gsCons_len (gsCons_len gsNil_len)))
    (pss_Dcons (psd_sto 2 (pd_bin op_addD op2_addD (pd_ixM 2 (pd_bin op_mod op2_modI (pd_var 3) (pd_var 1))) (pd_bin op_mulD op2_mulD (pd_var 4) (pd_bin op_addD op2_addD (pd_var 3) pd_int))) (pd_bin op_mod op2_modI (pd_var 3) (pd_var 1)))
    pss_Dnil))
    (pss_Dcons (psd_retIf (M1 := []) (ptd_cmp (op_neP hu) cm_ne (pd_varM 2) (pd_lst pad_nil)) (rtd_C 2) (rtd_F (pfd_lst (pad_cons pd_int pad_nil))))
    pss_Dnil))))
abbrev st__law_box : Stmt := top 53
theorem sc__law_box : FnScope ["_law_script", "_law_k", "_law_cell"] ["_law_script", "_law_k"] (defScope st__law_box) := ⟨rfl, rfl, rfl, by decide +kernel, rfl, by decide +kernel, by decide +kernel⟩
noncomputable def sv__law_box : Sv :=
  (sSeq (sAsg 2 (eIf (BD.tCmp ltD (eVar 1) (eApp lenD (eCons (eVar 0) eNil))) (eBin atD (eVar 0) (eVar 1)) (eC (.int 0))))
  (sSeq (sRet (eAppF fId (eCons (eBin mulD (eApp absD (eCons (eVar 2) eNil)) (eApp intD (eCons (eCmp geD (eApp absD (eCons (eVar 2) eNil)) (eBin powD (eC (.int 10)) (eC (.int 18)))) eNil))) (eCons (eBin addD (eBin addD (eBin modD (eVar 2) (eC (.int 2305843009213693951))) (eBin mulD (eC (.int 7919)) (eVar 1))) (eC (.int 63))) (eCons (eC (.int 0)) eNil)))))
  sNil))
theorem ok__law_box (nm : Nm mg) (A : At K mg "_law_box" st__law_box ["_law_script", "_law_k"])  : DP P w K mg base 1 "_law_box" st__law_box ["_law_script", "_law_k"] 2 true (runP 3 (sv__law_box)) :=
  DP.make A sc__law_box (.inr (nx_seq2 (nx_seq1 nx_ret))) fun f cd A outer s H E hr => (
    have hu := room_u hr.rm; have hgd := hr.gd;
    (pss_Dcons (psd_asg 2 sc__law_box.nd (pd_if (ptd_cmp (op_ltD hu) cm_lt (pd_var 1) (pd_blt call_lenDD opN_len nm.len_ (by rfl) (pad_cons (pd_var 0) pad_nil))) (pd_ix (pd_var 0) (pd_var 1)) pd_int))
    (pss_Dcons (psd_retF (M1 := []) (pfd_lst (pad_cons (pd_bin op_mulD op2_mulD (pd_blt call_abs opN_abs nm.abs_ (by rfl) (pad_cons (pd_var 2) pad_nil)) (pd_typ call_int1 opN_int nm.int_ (by rfl) (pad_cons (pd_cmp (op_geD hu) cm_ge (pd_blt call_abs opN_abs nm.abs_ (by rfl) (pad_cons (pd_var 2) pad_nil)) (pd_bin op_pow op2_powI pd_int pd_int)) pad_nil))) (pad_cons (pd_bin op_addD op2_addD (pd_bin op_addD op2_addD (pd_bin op_mod op2_modI (pd_var 2) pd_int) (pd_bin op_mulD op2_mulD pd_int (pd_var 1))) pd_int) (pad_cons pd_int pad_nil)))))
    pss_Dnil)))
abbrev st__law_take : Stmt := top 54
theorem sc__law_take : FnScope ["_law_box_here", "_law_span", "_law_once", "_law_found"] ["_law_box_here", "_law_span"] (defScope st__law_take) := ⟨rfl, rfl, rfl, by decide +kernel, rfl, by decide +kernel, by decide +kernel⟩
noncomputable def sv__law_take (g__law_take : List PyData → List PyData → FR) : Sv :=
  (sSeq (sIf (BD.tCmp gtD (eIxM 0 (eC (.int 0))) (eC (.int 0)))
  (sSeq (sAsg 3 (eBin modD (eIxM 0 (eC (.int 0))) (eVar 1)))
  (sSeq (sSto 0 (eC (.int 0)) (eBin divD (eIxM 0 (eC (.int 0))) (eVar 1)))
  (sSeq (sRet (eVar 3))
  sNil)))
  sNil)
  (sSeq (sIf (BD.tCmp gtD (eVar 1) (eBin powD (eC (.int 10)) (eC (.int 7))))
  (sSeq (sRet (eBin modD (eBin addD (eCallB 0 2 g__law_take (eCons (eBin powD (eC (.int 10)) (eC (.int 7))) eNil)) (eBin mulD (eBin powD (eC (.int 10)) (eC (.int 7))) (eCallB 0 2 g__law_take (eCons (eBin addD (eBin divD (eBin subD (eVar 1) (eC (.int 1))) (eBin powD (eC (.int 10)) (eC (.int 7)))) (eC (.int 1))) eNil)))) (eVar 1)))
  sNil)
  sNil)
  (sSeq (sSto 0 (eC (.int 2)) (eBin addD (eIxM 0 (eC (.int 2))) (eC (.int 1))))
  (sSeq (sAsg 2 (eBin modD (eBin powD (eBin addD (eIxM 0 (eC (.int 1))) (eBin mulD (eC (.int 39373)) (eIxM 0 (eC (.int 2))))) (eC (.int 5))) (eC (.int 2147483647))))
  (sSeq (sRet (eBin modD (eBin divD (eBin modD (eBin addD (eBin mulD (eVar 2) (eBin addD (eBin modD (eVar 2) (eC (.int 40009))) (eC (.int 7)))) (eBin mulD (eIxM 0 (eC (.int 2))) (eC (.int 7919)))) (eC (.int 2147483629))) (eC (.int 64))) (eVar 1)))
  sNil)))))
noncomputable def f__law_take : Nat → List PyData → List PyData → FR
  | 0 => fun _ _ => .bad
  | n + 1 => runB 4 (sv__law_take (f__law_take n))
theorem okS__law_take {k : Nat} {g__law_take : List PyData → List PyData → FR} (nm : Nm mg) (A : At K mg "_law_take" st__law_take ["_law_box_here", "_law_span"]) (D__law_take : DB P w K mg base k "_law_take" st__law_take ["_law_box_here", "_law_span"] 2 false g__law_take) : DB P w K mg base (k + 1) "_law_take" st__law_take ["_law_box_here", "_law_span"] 2 false (runB 4 (sv__law_take g__law_take)) :=
  DB.make A sc__law_take (.inl rfl) fun f cd A outer s H E hr => (
    have hu := room_u hr.rm; have hgd := hr.gd;
    (pss_Dcons (psd_if (ptd_cmp (op_gtD hu) cm_gt (pd_ixM 0 pd_int) pd_int)
    (pss_Dcons (psd_asg 3 sc__law_take.nd (pd_bin op_mod op2_modI (pd_ixM 0 pd_int) (pd_var 1)))
    (pss_Dcons (psd_sto 0 (pd_bin op_fdivW op2_divI (pd_ixM 0 pd_int) (pd_var 1)) pd_int)
    (pss_Dcons (psd_ret (M1 := [0]) (pd_var 3))
    pss_Dnil)))
    pss_Dnil)
    (pss_Dcons (psd_if (ptd_cmp (op_gtD hu) cm_gt (pd_var 1) (pd_bin op_pow op2_powI pd_int pd_int))
    (pss_Dcons (psd_ret (M1 := [0]) (pd_bin op_mod op2_modI (pd_bin op_addD op2_addD (cB_ 0 D__law_take hr (by omega) (takes_of rfl rfl rfl rfl) (pad_cons (pd_bin op_pow op2_powI pd_int pd_int) pad_nil)) (pd_bin op_mulD op2_mulD (pd_bin op_pow op2_powI pd_int pd_int) (cB_ 0 D__law_take hr (by omega) (takes_of rfl rfl rfl rfl) (pad_cons (pd_bin op_addD op2_addD (pd_bin op_fdivW op2_divI (pd_bin op_sub op2_subD (pd_var 1) pd_int) (pd_bin op_pow op2_powI pd_int pd_int)) pd_int) pad_nil)))) (pd_var 1)))
    pss_Dnil)
    pss_Dnil)
    (pss_Dcons (psd_sto 0 (pd_bin op_addD op2_addD (pd_ixM 0 pd_int) pd_int) pd_int)
    (pss_Dcons (psd_asg 2 sc__law_take.nd (pd_bin op_mod op2_modI (pd_bin op_pow op2_powI (pd_bin op_addD op2_addD (pd_ixM 0 pd_int) (pd_bin op_mulD op2_mulD pd_int (pd_ixM 0 pd_int))) pd_int) pd_int))
    (pss_Dcons (psd_ret (M1 := [0]) (pd_bin op_mod op2_modI (pd_bin op_fdivW op2_divI (pd_bin op_mod op2_modI (pd_bin op_addD op2_addD (pd_bin op_mulD op2_mulD (pd_var 2) (pd_bin op_addD op2_addD (pd_bin op_mod op2_modI (pd_var 2) pd_int) pd_int)) (pd_bin op_mulD op2_mulD (pd_ixM 0 pd_int) pd_int)) pd_int) pd_int) (pd_var 1)))
    pss_Dnil))))))
theorem ok__law_take (nm : Nm mg) (A : At K mg "_law_take" st__law_take ["_law_box_here", "_law_span"])  : ∀ n : Nat, DB P w K mg base (0 + n) "_law_take" st__law_take ["_law_box_here", "_law_span"] 2 false (f__law_take n)
  | 0 => DB.none A
  | n + 1 => okS__law_take nm A (ok__law_take nm A n)
abbrev st__law_strewn : Stmt := top 57
theorem sc__law_strewn : FnScope ["_law_box_here", "_law_some", "_law_left", "_law_found"] ["_law_box_here", "_law_some"] (defScope st__law_strewn) := ⟨rfl, rfl, rfl, by decide +kernel, rfl, by decide +kernel, by decide +kernel⟩
noncomputable def sv__law_strewn (g__law_take : List PyData → List PyData → FR) : Sv :=
  (sSeq (sPar (gsCons (gNm 2) (gsCons (gNm 3) gsNil)) (eCons (eAppF listF (eCons (eVar 1) eNil)) (eCons (eAppF fId eNil) eNil)))
  (sSeq (sWhile (BD.tCmp neD (eVar 2) (eApp fLst eNil))
  (sSeq (sExpr (eMut 3 fAppend (eCons (eMut 2 fPopAt (eCons (eCallB 0 2 g__law_take (eCons (eApp lenD (eCons (eVar 2) eNil)) eNil)) eNil)) eNil)))
  sNil))
  (sSeq (sRet (eVar 3))
  sNil)))
theorem ok__law_strewn {g__law_take : List PyData → List PyData → FR} (nm : Nm mg) (A : At K mg "_law_strewn" st__law_strewn ["_law_box_here", "_law_some"]) (D__law_take : DB P w K mg base 12 "_law_take" st__law_take ["_law_box_here", "_law_span"] 2 false g__law_take) : DB P w K mg base 13 "_law_strewn" st__law_strewn ["_law_box_here", "_law_some"] 2 false (runB 4 (sv__law_strewn g__law_take)) :=
  DB.make A sc__law_strewn (.inl rfl) fun f cd A outer s H E hr => (
    have hu := room_u hr.rm; have hgd := hr.gd;
    (pss_Dcons (psd_parFF 2 3 rfl sc__law_strewn.nd (pfd_typ call_list_of opF_list nm.list_ (by rfl) (pad_cons (pd_var 1) pad_nil)) (pfd_lst pad_nil))
    (pss_Dcons (psd_while (passes_of rfl) (ptd_cmp (op_neP hu) cm_ne (pd_varM 2) (pd_lst pad_nil))
    (pss_Dcons (psd_expr (pd_mut 3 PySem.F.slot_list_append PySem.F.type_list_append mt_append opMu_append (pad_cons (pd_mut 2 PySem.F.slot_list_pop PySem.F.type_list_pop mt_popAt opMu_popAt (pad_cons (cB_ 0 D__law_take hr (by omega) (takes_of rfl rfl rfl rfl) (pad_cons (pd_bltC call_lenDD opN_len lf_len nm.len_ (by rfl) (pad_cons (pd_varM 2) pad_nil)) pad_nil)) pad_nil)) pad_nil)))
    pss_Dnil))
    (pss_frz [0] (pss_Dcons (psd_ret (M1 := [0]) (pd_var 3))
    pss_Dnil)))))
abbrev st__law_of : Stmt := top 56
theorem sc__law_of : FnScope ["_law_box_here", "_law_some"] ["_law_box_here", "_law_some"] (defScope st__law_of) := ⟨rfl, rfl, rfl, by decide +kernel, rfl, by decide +kernel, by decide +kernel⟩
noncomputable def sv__law_of (g__law_take : List PyData → List PyData → FR) : Sv :=
  (sSeq (sRet (eBin atD (eVar 1) (eCallB 0 2 g__law_take (eCons (eApp lenD (eCons (eVar 1) eNil)) eNil))))
  sNil)
theorem ok__law_of {g__law_take : List PyData → List PyData → FR} (nm : Nm mg) (A : At K mg "_law_of" st__law_of ["_law_box_here", "_law_some"]) (D__law_take : DB P w K mg base 12 "_law_take" st__law_take ["_law_box_here", "_law_span"] 2 false g__law_take) : DB P w K mg base 13 "_law_of" st__law_of ["_law_box_here", "_law_some"] 2 false (runB 2 (sv__law_of g__law_take)) :=
  DB.make A sc__law_of (.inl rfl) fun f cd A outer s H E hr => (
    have hu := room_u hr.rm; have hgd := hr.gd;
    (pss_Dcons (psd_ret (M1 := [0]) (pd_ix (pd_var 1) (cB_ 0 D__law_take hr (by omega) (takes_of rfl rfl rfl rfl) (pad_cons (pd_blt call_lenDD opN_len nm.len_ (by rfl) (pad_cons (pd_var 1) pad_nil)) pad_nil))))
    pss_Dnil))
abbrev st__law_random_bench : Stmt := top 59
theorem sc__law_random_bench : FnScope ["_law_box_here", "_law_most", "_law_top", "_law_found", "_law_turn", "_law_spot"] ["_law_box_here", "_law_most", "_law_top"] (defScope st__law_random_bench) := ⟨rfl, rfl, rfl, by decide +kernel, rfl, by decide +kernel, by decide +kernel⟩
noncomputable def sv__law_random_bench (g__law_take : List PyData → List PyData → FR) (g__law_of : List PyData → List PyData → FR) (g__law_strewn : List PyData → List PyData → FR) : Sv :=
  (sSeq (sAsg 3 (eAppF fId eNil))
  (sSeq (sFor (gNm 4) (iR1 (eCallB 0 2 g__law_take (eCons (eBin addD (eVar 1) (eC (.int 1))) eNil)))
  (sSeq (sAsg 5 (eCallB 0 2 g__law_take (eCons (eBin addD (eVar 2) (eC (.int 1))) eNil)))
  (sSeq (sIf (tAn (BD.tCmp neD (eVar 3) (eApp fLst eNil)) (BD.tCmp gtD (eCallB 0 2 g__law_take (eCons (eC (.int 3)) eNil)) (eC (.int 0))))
  (sSeq (sAsg 5 (eLF (eBin addD (eBin addD (eCallB 0 2 g__law_of (eCons (eVar 3) eNil)) (eC (.int 1))) (eCallB 0 2 g__law_take (eCons (eC (.int 3)) eNil)))))
  sNil)
  sNil)
  (sSeq (sWhile (BD.tCmp inD (eVar 5) (eVar 3))
  (sSeq (sAsg 5 (eBin addD (eVar 5) (eC (.int 1))))
  sNil))
  (sSeq (sExpr (eMut 3 fAppend (eCons (eVar 5) eNil)))
  sNil)))))
  (sSeq (sRet (eApp tupD (eCons (eCallB 0 2 g__law_strewn (eCons (eVar 3) eNil)) eNil)))
  sNil)))
theorem ok__law_random_bench {g__law_take : List PyData → List PyData → FR} {g__law_of : List PyData → List PyData → FR} {g__law_strewn : List PyData → List PyData → FR} (nm : Nm mg) (A : At K mg "_law_random_bench" st__law_random_bench ["_law_box_here", "_law_most", "_law_top"]) (D__law_take : DB P w K mg base 13 "_law_take" st__law_take ["_law_box_here", "_law_span"] 2 false g__law_take) (D__law_of : DB P w K mg base 13 "_law_of" st__law_of ["_law_box_here", "_law_some"] 2 false g__law_of) (D__law_strewn : DB P w K mg base 13 "_law_strewn" st__law_strewn ["_law_box_here", "_law_some"] 2 false g__law_strewn) : DB P w K mg base 14 "_law_random_bench" st__law_random_bench ["_law_box_here", "_law_most", "_law_top"] 3 false (runB 6 (sv__law_random_bench g__law_take g__law_of g__law_strewn)) :=
  DB.make A sc__law_random_bench (.inl rfl) fun f cd A outer s H E hr => (
    have hu := room_u hr.rm; have hgd := hr.gd;
    (pss_Dcons (psd_asgF 3 sc__law_random_bench.nd (pfd_lst pad_nil))
    (pss_Dcons (psd_for (passes_of rfl) rfl (pid_r1 nm.range_ (cB_ 0 D__law_take hr (by omega) (takes_of rfl rfl rfl rfl) (pad_cons (pd_bin op_addD op2_addD (pd_var 1) pd_int) pad_nil))) (pgd_name 4 sc__law_random_bench.nd)
    (pss_Dcons (psd_asg 5 sc__law_random_bench.nd (cB_ 0 D__law_take hr (by omega) (takes_of rfl rfl rfl rfl) (pad_cons (pd_bin op_addD op2_addD (pd_var 2) pd_int) pad_nil)))
    (pss_Dcons (psd_if (PWD.pt (pwd_and (ptd_cmp (op_neP hu) cm_ne (pd_varM 3) (pd_lst pad_nil)) (pwd_and1 (ptd_cmp (op_gtD hu) cm_gt (cB_ 0 D__law_take hr (by omega) (takes_of rfl rfl rfl rfl) (pad_cons pd_int pad_nil)) pd_int))))
    (pss_Dcons (psd_asg 5 sc__law_random_bench.nd (pd_lf (pd_bin op_addD op2_addD (pd_bin op_addD op2_addD (cB_ 0 D__law_of hr (by omega) (takes_of rfl rfl rfl rfl) (pad_cons (pd_varM 3) pad_nil)) pd_int) (cB_ 0 D__law_take hr (by omega) (takes_of rfl rfl rfl rfl) (pad_cons pd_int pad_nil)))))
    pss_Dnil)
    pss_Dnil)
    (pss_Dcons (psd_while (passes_of rfl) (ptd_cmp (op_inDD hu) cm_in (pd_var 5) (pd_varM 3))
    (pss_Dcons (psd_asg 5 sc__law_random_bench.nd (pd_bin op_addD op2_addD (pd_var 5) pd_int))
    pss_Dnil))
    (pss_Dcons (psd_expr (pd_mut 3 PySem.F.slot_list_append PySem.F.type_list_append mt_append opMu_append (pad_cons (pd_var 5) pad_nil)))
    pss_Dnil)))))
    (pss_frz [0] (pss_Dcons (psd_ret (M1 := [0]) (pd_typ call_tuple_of opN_tuple nm.tuple_ (by rfl) (pad_cons (cB_ 0 D__law_strewn hr (by omega) (takes_of rfl rfl rfl rfl) (pad_cons (pd_var 3) pad_nil)) pad_nil)))
    pss_Dnil)))))
abbrev st__law_rise : Stmt := top 61
theorem sc__law_rise : FnScope ["_law_box_here", "_law_bench", "_law_far", "_law_found", "_law_spot", "_law_at", "_law_later"] ["_law_box_here", "_law_bench", "_law_far"] (defScope st__law_rise) := ⟨rfl, rfl, rfl, by decide +kernel, rfl, by decide +kernel, by decide +kernel⟩
noncomputable def sv__law_rise (g__law_take : List PyData → List PyData → FR) : Sv :=
  (sSeq (sAsg 3 (eAppF listF (eCons (eVar 1) eNil)))
  (sSeq (sFor (gTu (gsCons (gNm 4) (gsCons (gNm 5) gsNil))) (iSq (eUn revD (eAppF (sortF false) (eCons (eLc [5, 4] (gTu (gsCons (gNm 5) (gsCons (gNm 4) gsNil))) (iEn (eVar 1)) tYs (eApp fTup (eCons (eVar 4) (eCons (eVar 5) eNil)))) eNil))))
  (sSeq (sAsg 6 (eBin addD (eVar 4) (eCallB 0 2 g__law_take (eCons (eBin addD (eVar 2) (eC (.int 1))) eNil))))
  (sSeq (sWhile (BD.tCmp inD (eVar 6) (eBin addD (eSl (eVar 3) eNoPart (ePart (eVar 5))) (eSl (eVar 3) (ePart (eBin addD (eVar 5) (eC (.int 1)))) eNoPart)))
  (sSeq (sAsg 6 (eBin addD (eVar 6) (eC (.int 1))))
  sNil))
  (sSeq (sSto 3 (eVar 5) (eVar 6))
  sNil))))
  (sSeq (sRet (eApp tupD (eCons (eVar 3) eNil)))
  sNil)))
theorem ok__law_rise {g__law_take : List PyData → List PyData → FR} (nm : Nm mg) (A : At K mg "_law_rise" st__law_rise ["_law_box_here", "_law_bench", "_law_far"]) (D__law_take : DB P w K mg base 12 "_law_take" st__law_take ["_law_box_here", "_law_span"] 2 false g__law_take) : DB P w K mg base 13 "_law_rise" st__law_rise ["_law_box_here", "_law_bench", "_law_far"] 3 false (runB 7 (sv__law_rise g__law_take)) :=
  DB.make A sc__law_rise (.inl rfl) fun f cd A outer s H E hr => (
    have hu := room_u hr.rm; have hgd := hr.gd;
    (pss_Dcons (psd_asgF 3 sc__law_rise.nd (pfd_typ call_list_of opF_list nm.list_ (by rfl) (pad_cons (pd_var 1) pad_nil)))
    (pss_Dcons (psd_for (passes_of rfl) rfl (pid_seq (pd_revA (pd_fresh (pfd_blt (call_sortD hu) opF_sort nm.sorted_ (by rfl) (pad_cons (pd_fresh (pfd_lc [("_law_at", 5), ("_law_spot", 4)] rfl sc__law_rise.nd (pid_enum nm.enumerate_ (pd_var 1)) (by rfl) (fun _ _ _ _ _ => (pgd_tup rfl (pgsd_cons (pgd_name 5 sc__law_rise.nd) (pgsd_cons (pgd_name 4 sc__law_rise.nd) pgsd_nil)) (gsCons_len (gsCons_len gsNil_len)))) (fun _ _ _ _ _ => ptsd_nil) (fun _ _ _ _ _ => (pd_tup (pad_cons (pd_var 4) (pad_cons (pd_var 5) pad_nil)))))) pad_nil))))) (pgd_tup rfl (pgsd_cons (pgd_name 4 sc__law_rise.nd) (pgsd_cons (pgd_name 5 sc__law_rise.nd) pgsd_nil)) (gsCons_len (gsCons_len gsNil_len)))
    (pss_Dcons (psd_asg 6 sc__law_rise.nd (pd_bin op_addD op2_addD (pd_var 4) (cB_ 0 D__law_take hr (by omega) (takes_of rfl rfl rfl rfl) (pad_cons (pd_bin op_addD op2_addD (pd_var 2) pd_int) pad_nil))))
    (pss_Dcons (psd_while (passes_of rfl) (ptd_cmp (op_inDD hu) cm_in (pd_var 6) (pd_bin op_addD op2_addD (pd_slice (pd_varM 3) pod_none (pod_some (pd_var 5))) (pd_slice (pd_varM 3) (pod_some (pd_bin op_addD op2_addD (pd_var 5) pd_int)) pod_none)))
    (pss_Dcons (psd_asg 6 sc__law_rise.nd (pd_bin op_addD op2_addD (pd_var 6) pd_int))
    pss_Dnil))
    (pss_Dcons (psd_sto 3 (pd_var 6) (pd_var 5))
    pss_Dnil))))
    (pss_frz [0] (pss_Dcons (psd_ret (M1 := [0]) (pd_typ call_tuple_of opN_tuple nm.tuple_ (by rfl) (pad_cons (pd_var 3) pad_nil)))
    pss_Dnil)))))
abbrev st_look_many : Stmt := top 22
theorem sc_look_many : FnScope ["one", "other"] ["one", "other"] (defScope st_look_many) := ⟨rfl, rfl, rfl, by decide +kernel, rfl, by decide +kernel, by decide +kernel⟩
noncomputable def sv_look_many : Sv :=
  (sSeq (sIf (BD.tCmp neD (eApp lenD (eCons (eVar 0) eNil)) (eApp lenD (eCons (eVar 1) eNil)))
  (sSeq (sRaise "OtherPeople" "many" (eApp lenD (eCons (eVar 1) eNil)))
  sNil)
  sNil)
  sNil)
theorem ok_look_many (nm : Nm mg) (A : At K mg "look_many" st_look_many ["one", "other"])  (E_OtherPeople : EC P w K mg base 1 "OtherPeople" "many") : DP P w K mg base 3 "look_many" st_look_many ["one", "other"] 2 false (runP 2 (sv_look_many)) :=
  DP.make A sc_look_many (.inl rfl) fun f cd A outer s H E hr => (
    have hu := room_u hr.rm; have hgd := hr.gd;
    (pss_Dcons (psd_if (ptd_cmp (op_neP hu) cm_ne (pd_blt call_lenDD opN_len nm.len_ (by rfl) (pad_cons (pd_var 0) pad_nil)) (pd_blt call_lenDD opN_len nm.len_ (by rfl) (pad_cons (pd_var 1) pad_nil)))
    (pss_Dcons (psd_raise (M1 := []) E_OtherPeople (hr.mono (by decide)) rfl (takes_of rfl rfl rfl rfl) (pd_blt call_lenDD opN_len nm.len_ (by rfl) (pad_cons (pd_var 1) pad_nil)))
    pss_Dnil)
    pss_Dnil)
    pss_Dnil))
abbrev st_bar : Stmt := top 23
theorem sc_bar : FnScope ["one", "other", "found", "person", "seat", "aim"] ["one", "other"] (defScope st_bar) := ⟨rfl, rfl, rfl, by decide +kernel, rfl, by decide +kernel, by decide +kernel⟩
noncomputable def sv_bar (g_look_many : List PyData → FR) : Sv :=
  (sSeq (sExpr (eCallP 2 none g_look_many (eCons (eVar 0) (eCons (eVar 1) eNil))))
  (sSeq (sAsg 2 (eLc [3, 4, 5] (gTu (gsCons (gNm 3) (gsCons (gTu (gsCons (gNm 4) (gsCons (gNm 5) gsNil))) gsNil))) (iEz (eVar 0) (eVar 1)) (BD.tCmp ltD (eVar 5) (eVar 4)) (eVar 3)))
  (sSeq (sRet (eIf (BD.tCmp gtD (eApp lenD (eCons (eVar 2) eNil)) (eC (.int 0))) (eBin atD (eVar 2) (eC (.int 0))) (eC .none)))
  sNil)))
theorem ok_bar {g_look_many : List PyData → FR} (nm : Nm mg) (A : At K mg "bar" st_bar ["one", "other"]) (D_look_many : DP P w K mg base 3 "look_many" st_look_many ["one", "other"] 2 false g_look_many) : DP P w K mg base 4 "bar" st_bar ["one", "other"] 2 false (runP 6 (sv_bar g_look_many)) :=
  DP.make A sc_bar (.inl rfl) fun f cd A outer s H E hr => (
    have hu := room_u hr.rm; have hgd := hr.gd;
    (pss_Dcons (psd_expr (cP_ D_look_many hr (by omega) (takes_of rfl rfl rfl rfl) (pad_cons (pd_var 0) (pad_cons (pd_var 1) pad_nil))))
    (pss_Dcons (psd_asgLc 2 [("person", 3), ("seat", 4), ("aim", 5)] rfl sc_bar.nd (pid_enz nm.enumerate_ nm.zip_ (pd_var 0) (pd_var 1)) (by rfl) (fun _ _ _ _ _ => (pgd_tup rfl (pgsd_cons (pgd_name 3 sc_bar.nd) (pgsd_cons (pgd_tup rfl (pgsd_cons (pgd_name 4 sc_bar.nd) (pgsd_cons (pgd_name 5 sc_bar.nd) pgsd_nil)) (gsCons_len (gsCons_len gsNil_len))) pgsd_nil)) (gsCons_len (gsCons_len gsNil_len)))) (fun _ _ _ _ _ => (ptsd_one (ptd_cmp (op_ltD hu) cm_lt (pd_var 5) (pd_var 4)))) (fun _ _ _ _ _ => (pd_var 3)))
    (pss_frz [] (pss_Dcons (psd_ret (M1 := []) (pd_if (ptd_cmp (op_gtD hu) cm_gt (pd_blt call_lenDD opN_len nm.len_ (by rfl) (pad_cons (pd_var 2) pad_nil)) pd_int) (pd_ix (pd_var 2) pd_int) pd_non))
    pss_Dnil)))))
abbrev st_look_leads : Stmt := top 24
theorem sc_look_leads : FnScope ["one", "other", "person"] ["one", "other"] (defScope st_look_leads) := ⟨rfl, rfl, rfl, by decide +kernel, rfl, by decide +kernel, by decide +kernel⟩
noncomputable def sv_look_leads (g_bar : List PyData → FR) : Sv :=
  (sSeq (sAsg 2 (eCallP 2 none g_bar (eCons (eVar 0) (eCons (eVar 1) eNil))))
  (sSeq (sIf (BD.tCmp ntD (eVar 2) (eC .none))
  (sSeq (sRaise "Barred" "person" (eVar 2))
  sNil)
  sNil)
  sNil))
theorem ok_look_leads {g_bar : List PyData → FR} (nm : Nm mg) (A : At K mg "look_leads" st_look_leads ["one", "other"]) (D_bar : DP P w K mg base 4 "bar" st_bar ["one", "other"] 2 false g_bar) (E_Barred : EC P w K mg base 1 "Barred" "person") : DP P w K mg base 5 "look_leads" st_look_leads ["one", "other"] 2 false (runP 3 (sv_look_leads g_bar)) :=
  DP.make A sc_look_leads (.inl rfl) fun f cd A outer s H E hr => (
    have hu := room_u hr.rm; have hgd := hr.gd;
    (pss_Dcons (psd_asg 2 sc_look_leads.nd (cP_ D_bar hr (by omega) (takes_of rfl rfl rfl rfl) (pad_cons (pd_var 0) (pad_cons (pd_var 1) pad_nil))))
    (pss_Dcons (psd_if (ptd_cmp op_ntD cm_nt (pd_var 2) pd_non)
    (pss_Dcons (psd_raise (M1 := []) E_Barred (hr.mono (by decide)) rfl (takes_of rfl rfl rfl rfl) (pd_var 2))
    pss_Dnil)
    pss_Dnil)
    pss_Dnil)))
abbrev st_numbers_ahead : Stmt := top 13
theorem sc_numbers_ahead : FnScope ["seating", "place", "seat"] ["seating"] (defScope st_numbers_ahead) := ⟨rfl, rfl, rfl, by decide +kernel, rfl, by decide +kernel, by decide +kernel⟩
noncomputable def sv_numbers_ahead : Sv :=
  (sSeq (sRet (eLc [1, 2] (gTu (gsCons (gNm 1) (gsCons (gNm 2) gsNil))) (iEn (eAppF (sortF false) (eCons (eVar 0) eNil))) tYs (eBin subD (eVar 2) (eVar 1))))
  sNil)
theorem ok_numbers_ahead (nm : Nm mg) (A : At K mg "numbers_ahead" st_numbers_ahead ["seating"])  : DP P w K mg base 1 "numbers_ahead" st_numbers_ahead ["seating"] 1 false (runP 3 (sv_numbers_ahead)) :=
  DP.make A sc_numbers_ahead (.inl rfl) fun f cd A outer s H E hr => (
    have hu := room_u hr.rm; have hgd := hr.gd;
    (pss_Dcons (psd_ret (M1 := []) (pd_fresh (pfd_lc [("place", 1), ("seat", 2)] rfl sc_numbers_ahead.nd (pid_enum nm.enumerate_ (pd_fresh (pfd_blt (call_sortD hu) opF_sort nm.sorted_ (by rfl) (pad_cons (pd_var 0) pad_nil)))) (by rfl) (fun _ _ _ _ _ => (pgd_tup rfl (pgsd_cons (pgd_name 1 sc_numbers_ahead.nd) (pgsd_cons (pgd_name 2 sc_numbers_ahead.nd) pgsd_nil)) (gsCons_len (gsCons_len gsNil_len)))) (fun _ _ _ _ _ => ptsd_nil) (fun _ _ _ _ _ => (pd_bin op_sub op2_subD (pd_var 2) (pd_var 1))))))
    pss_Dnil))
abbrev st_empties_moved : Stmt := top 26
theorem sc_empties_moved : FnScope ["one", "other", "found", "reached", "first", "last"] ["one", "other"] (defScope st_empties_moved) := ⟨rfl, rfl, rfl, by decide +kernel, rfl, by decide +kernel, by decide +kernel⟩
noncomputable def sv_empties_moved (g_numbers_ahead : List PyData → FR) : Sv :=
  (sSeq (sUnp (gTu (gsCons (gNm 2) (gsCons (gNm 3) gsNil))) (eApp fTup (eCons (eC (.int 0)) (eCons (eC (.int 0)) eNil))))
  (sSeq (sFor (gTu (gsCons (gNm 4) (gsCons (gNm 5) gsNil))) (iZp (eCallP 1 none g_numbers_ahead (eCons (eVar 0) eNil)) (eCallP 1 none g_numbers_ahead (eCons (eVar 1) eNil)))
  (sSeq (sAug 2 (i2 (fun _ _ => true) fun i j => i + j) (eApp max2D (eCons (eC (.int 0)) (eCons (eBin subD (eVar 5) (eApp max2D (eCons (eVar 4) (eCons (eVar 3) eNil)))) eNil))))
  (sSeq (sAsg 3 (eApp max2D (eCons (eVar 3) (eCons (eVar 5) eNil))))
  sNil)))
  (sSeq (sRet (eVar 2))
  sNil)))
theorem ok_empties_moved {g_numbers_ahead : List PyData → FR} (nm : Nm mg) (A : At K mg "empties_moved" st_empties_moved ["one", "other"]) (D_numbers_ahead : DP P w K mg base 1 "numbers_ahead" st_numbers_ahead ["seating"] 1 false g_numbers_ahead) : DP P w K mg base 2 "empties_moved" st_empties_moved ["one", "other"] 2 false (runP 6 (sv_empties_moved g_numbers_ahead)) :=
  DP.make A sc_empties_moved (.inl rfl) fun f cd A outer s H E hr => (
    have hu := room_u hr.rm; have hgd := hr.gd;
    (pss_Dcons (psd_unp (pd_tup (pad_cons pd_int (pad_cons pd_int pad_nil))) (pgd_tup rfl (pgsd_cons (pgd_name 2 sc_empties_moved.nd) (pgsd_cons (pgd_name 3 sc_empties_moved.nd) pgsd_nil)) (gsCons_len (gsCons_len gsNil_len))))
    (pss_Dcons (psd_for (passes_of rfl) rfl (pid_zip nm.zip_ (cP_ D_numbers_ahead hr (by omega) (takes_of rfl rfl rfl rfl) (pad_cons (pd_var 0) pad_nil)) (cP_ D_numbers_ahead hr (by omega) (takes_of rfl rfl rfl rfl) (pad_cons (pd_var 1) pad_nil))) (pgd_tup rfl (pgsd_cons (pgd_name 4 sc_empties_moved.nd) (pgsd_cons (pgd_name 5 sc_empties_moved.nd) pgsd_nil)) (gsCons_len (gsCons_len gsNil_len)))
    (pss_Dcons (psd_aug 2 sc_empties_moved.nd iop_add op2_i20 (pd_blt (call_max2 rfl) opN_max2 nm.max_ (by rfl) (pad_cons pd_int (pad_cons (pd_bin op_sub op2_subD (pd_var 5) (pd_blt (call_max2 rfl) opN_max2 nm.max_ (by rfl) (pad_cons (pd_var 4) (pad_cons (pd_var 3) pad_nil)))) pad_nil))))
    (pss_Dcons (psd_asg 3 sc_empties_moved.nd (pd_blt (call_max2 rfl) opN_max2 nm.max_ (by rfl) (pad_cons (pd_var 3) (pad_cons (pd_var 5) pad_nil))))
    pss_Dnil)))
    (pss_Dcons (psd_ret (M1 := []) (pd_var 2))
    pss_Dnil))))
abbrev st_movers : Stmt := top 25
theorem sc_movers : FnScope ["one", "other", "person", "seat", "aim"] ["one", "other"] (defScope st_movers) := ⟨rfl, rfl, rfl, by decide +kernel, rfl, by decide +kernel, by decide +kernel⟩
noncomputable def sv_movers : Sv :=
  (sSeq (sRet (eLc [2, 3, 4] (gTu (gsCons (gNm 2) (gsCons (gTu (gsCons (gNm 3) (gsCons (gNm 4) gsNil))) gsNil))) (iEz (eVar 0) (eVar 1)) (BD.tCmp neD (eVar 3) (eVar 4)) (eVar 2)))
  sNil)
theorem ok_movers (nm : Nm mg) (A : At K mg "movers" st_movers ["one", "other"])  : DP P w K mg base 1 "movers" st_movers ["one", "other"] 2 false (runP 5 (sv_movers)) :=
  DP.make A sc_movers (.inl rfl) fun f cd A outer s H E hr => (
    have hu := room_u hr.rm; have hgd := hr.gd;
    (pss_Dcons (psd_ret (M1 := []) (pd_fresh (pfd_lc [("person", 2), ("seat", 3), ("aim", 4)] rfl sc_movers.nd (pid_enz nm.enumerate_ nm.zip_ (pd_var 0) (pd_var 1)) (by rfl) (fun _ _ _ _ _ => (pgd_tup rfl (pgsd_cons (pgd_name 2 sc_movers.nd) (pgsd_cons (pgd_tup rfl (pgsd_cons (pgd_name 3 sc_movers.nd) (pgsd_cons (pgd_name 4 sc_movers.nd) pgsd_nil)) (gsCons_len (gsCons_len gsNil_len))) pgsd_nil)) (gsCons_len (gsCons_len gsNil_len)))) (fun _ _ _ _ _ => (ptsd_one (ptd_cmp (op_neP hu) cm_ne (pd_var 3) (pd_var 4)))) (fun _ _ _ _ _ => (pd_var 2)))))
    pss_Dnil))
abbrev st_moved : Stmt := top 27
theorem sc_moved : FnScope ["one", "other"] ["one", "other"] (defScope st_moved) := ⟨rfl, rfl, rfl, by decide +kernel, rfl, by decide +kernel, by decide +kernel⟩
noncomputable def sv_moved (g_look_leads : List PyData → FR) (g_movers : List PyData → FR) (g_empties_moved : List PyData → FR) : Sv :=
  (sSeq (sExpr (eCallP 2 none g_look_leads (eCons (eVar 0) (eCons (eVar 1) eNil))))
  (sSeq (sRet (eApp fTup (eCons (eApp lenD (eCons (eCallP 2 none g_movers (eCons (eVar 0) (eCons (eVar 1) eNil))) eNil)) (eCons (eCallP 2 none g_empties_moved (eCons (eVar 0) (eCons (eVar 1) eNil))) eNil))))
  sNil))
theorem ok_moved {g_look_leads : List PyData → FR} {g_movers : List PyData → FR} {g_empties_moved : List PyData → FR} (nm : Nm mg) (A : At K mg "moved" st_moved ["one", "other"]) (D_look_leads : DP P w K mg base 5 "look_leads" st_look_leads ["one", "other"] 2 false g_look_leads) (D_movers : DP P w K mg base 5 "movers" st_movers ["one", "other"] 2 false g_movers) (D_empties_moved : DP P w K mg base 5 "empties_moved" st_empties_moved ["one", "other"] 2 false g_empties_moved) : DP P w K mg base 6 "moved" st_moved ["one", "other"] 2 false (runP 2 (sv_moved g_look_leads g_movers g_empties_moved)) :=
  DP.make A sc_moved (.inl rfl) fun f cd A outer s H E hr => (
    have hu := room_u hr.rm; have hgd := hr.gd;
    (pss_Dcons (psd_expr (cP_ D_look_leads hr (by omega) (takes_of rfl rfl rfl rfl) (pad_cons (pd_var 0) (pad_cons (pd_var 1) pad_nil))))
    (pss_Dcons (psd_ret (M1 := []) (pd_tup (pad_cons (pd_blt call_lenDD opN_len nm.len_ (by rfl) (pad_cons (cP_ D_movers hr (by omega) (takes_of rfl rfl rfl rfl) (pad_cons (pd_var 0) (pad_cons (pd_var 1) pad_nil))) pad_nil)) (pad_cons (cP_ D_empties_moved hr (by omega) (takes_of rfl rfl rfl rfl) (pad_cons (pd_var 0) (pad_cons (pd_var 1) pad_nil))) pad_nil))))
    pss_Dnil)))
abbrev st_person_on : Stmt := top 10
theorem sc_person_on : FnScope ["seating", "seat", "found", "person", "own"] ["seating", "seat"] (defScope st_person_on) := ⟨rfl, rfl, rfl, by decide +kernel, rfl, by decide +kernel, by decide +kernel⟩
noncomputable def sv_person_on : Sv :=
  (sSeq (sAsg 2 (eLc [3, 4] (gTu (gsCons (gNm 3) (gsCons (gNm 4) gsNil))) (iEn (eVar 0)) (BD.tCmp eqD (eVar 4) (eVar 1)) (eVar 3)))
  (sSeq (sRet (eIf (BD.tCmp gtD (eApp lenD (eCons (eVar 2) eNil)) (eC (.int 0))) (eBin atD (eVar 2) (eC (.int 0))) (eC .none)))
  sNil))
theorem ok_person_on (nm : Nm mg) (A : At K mg "person_on" st_person_on ["seating", "seat"])  : DP P w K mg base 1 "person_on" st_person_on ["seating", "seat"] 2 false (runP 5 (sv_person_on)) :=
  DP.make A sc_person_on (.inl rfl) fun f cd A outer s H E hr => (
    have hu := room_u hr.rm; have hgd := hr.gd;
    (pss_Dcons (psd_asgLc 2 [("person", 3), ("own", 4)] rfl sc_person_on.nd (pid_enum nm.enumerate_ (pd_var 0)) (by rfl) (fun _ _ _ _ _ => (pgd_tup rfl (pgsd_cons (pgd_name 3 sc_person_on.nd) (pgsd_cons (pgd_name 4 sc_person_on.nd) pgsd_nil)) (gsCons_len (gsCons_len gsNil_len)))) (fun _ _ _ _ _ => (ptsd_one (ptd_cmp (op_eqP hu) cm_eq (pd_var 4) (pd_var 1)))) (fun _ _ _ _ _ => (pd_var 3)))
    (pss_frz [] (pss_Dcons (psd_ret (M1 := []) (pd_if (ptd_cmp (op_gtD hu) cm_gt (pd_blt call_lenDD opN_len nm.len_ (by rfl) (pad_cons (pd_var 2) pad_nil)) pd_int) (pd_ix (pd_var 2) pd_int) pd_non))
    pss_Dnil))))
abbrev st_empties_below : Stmt := top 12
theorem sc_empties_below : FnScope ["seating", "seat", "own"] ["seating", "seat"] (defScope st_empties_below) := ⟨rfl, rfl, rfl, by decide +kernel, rfl, by decide +kernel, by decide +kernel⟩
noncomputable def sv_empties_below : Sv :=
  (sSeq (sRet (eBin subD (eVar 1) (eApp lenD (eCons (eLc [2] (gNm 2) (iSq (eVar 0)) (BD.tCmp ltD (eVar 2) (eVar 1)) (eVar 2)) eNil))))
  sNil)
theorem ok_empties_below (nm : Nm mg) (A : At K mg "empties_below" st_empties_below ["seating", "seat"])  : DP P w K mg base 1 "empties_below" st_empties_below ["seating", "seat"] 2 false (runP 3 (sv_empties_below)) :=
  DP.make A sc_empties_below (.inl rfl) fun f cd A outer s H E hr => (
    have hu := room_u hr.rm; have hgd := hr.gd;
    (pss_Dcons (psd_ret (M1 := []) (pd_bin op_sub op2_subD (pd_var 1) (pd_blt call_lenDD opN_len nm.len_ (by rfl) (pad_cons (pd_fresh (pfd_lc [("own", 2)] rfl sc_empties_below.nd (pid_seq (pd_var 0)) (by rfl) (fun _ _ _ _ _ => (pgd_name 2 sc_empties_below.nd)) (fun _ _ _ _ _ => (ptsd_one (ptd_cmp (op_ltD hu) cm_lt (pd_var 2) (pd_var 1)))) (fun _ _ _ _ _ => (pd_var 2)))) pad_nil))))
    pss_Dnil))
abbrev st_empty_at : Stmt := top 14
theorem sc_empty_at : FnScope ["seating", "number", "first"] ["seating", "number"] (defScope st_empty_at) := ⟨rfl, rfl, rfl, by decide +kernel, rfl, by decide +kernel, by decide +kernel⟩
noncomputable def sv_empty_at (g_numbers_ahead : List PyData → FR) : Sv :=
  (sSeq (sRet (eBin addD (eVar 1) (eApp lenD (eCons (eLc [2] (gNm 2) (iSq (eCallP 1 none g_numbers_ahead (eCons (eVar 0) eNil))) (BD.tCmp leD (eVar 2) (eVar 1)) (eVar 2)) eNil))))
  sNil)
theorem ok_empty_at {g_numbers_ahead : List PyData → FR} (nm : Nm mg) (A : At K mg "empty_at" st_empty_at ["seating", "number"]) (D_numbers_ahead : DP P w K mg base 1 "numbers_ahead" st_numbers_ahead ["seating"] 1 false g_numbers_ahead) : DP P w K mg base 2 "empty_at" st_empty_at ["seating", "number"] 2 false (runP 3 (sv_empty_at g_numbers_ahead)) :=
  DP.make A sc_empty_at (.inl rfl) fun f cd A outer s H E hr => (
    have hu := room_u hr.rm; have hgd := hr.gd;
    (pss_Dcons (psd_ret (M1 := []) (pd_bin op_addD op2_addD (pd_var 1) (pd_blt call_lenDD opN_len nm.len_ (by rfl) (pad_cons (pd_fresh (pfd_lc [("first", 2)] rfl sc_empty_at.nd (pid_seq (cP_ D_numbers_ahead hr (by omega) (takes_of rfl rfl rfl rfl) (pad_cons (pd_var 0) pad_nil))) (by rfl) (fun _ _ _ _ _ => (pgd_name 2 sc_empty_at.nd)) (fun _ _ _ _ _ => (ptsd_one (ptd_cmp (op_leD hu) cm_le (pd_var 2) (pd_var 1)))) (fun _ _ _ _ _ => (pd_var 2)))) pad_nil))))
    pss_Dnil))
abbrev st_gone_down : Stmt := top 28
theorem sc_gone_down : FnScope ["one", "other", "seat", "number", "step", "first", "low", "own"] ["one", "other", "seat"] (defScope st_gone_down) := ⟨rfl, rfl, rfl, by decide +kernel, rfl, by decide +kernel, by decide +kernel⟩
noncomputable def sv_gone_down (g_empties_below : List PyData → FR) (g_empty_at : List PyData → FR) (g_numbers_ahead : List PyData → FR) : Sv :=
  (sSeq (sAsg 3 (eCallP 2 none g_empties_below (eCons (eVar 0) (eCons (eVar 2) eNil))))
  (sSeq (sAsg 4 (eBin subD (eVar 2) (eCallP 2 none g_empty_at (eCons (eVar 1) (eCons (eVar 3) eNil)))))
  (sSeq (sAsg 5 (eApp (bestDD mxI) (eApd 1 1 (eCons (eLc [5] (gNm 5) (iSq (eCallP 1 none g_numbers_ahead (eCons (eVar 1) eNil))) (BD.tCmp leD (eVar 5) (eVar 3)) (eVar 5)) eNil) (eCons (eC (.int 0)) eNil))))
  (sSeq (sAsg 6 (eApp (bestD mxI) (eCons (eBin addD (eLc [7] (gNm 7) (iSq (eVar 0)) (BD.tCmp ltD (eVar 7) (eVar 2)) (eBin addD (eVar 7) (eC (.int 1)))) (eApp fLst (eCons (eBin addD (eBin subD (eVar 2) (eVar 3)) (eVar 5)) eNil))) eNil)))
  (sSeq (sRet (eBin subD (eVar 2) (eBin mulD (eVar 4) (eBin addD (eBin divD (eBin subD (eVar 2) (eVar 6)) (eVar 4)) (eC (.int 1))))))
  sNil)))))
theorem ok_gone_down {g_empties_below : List PyData → FR} {g_empty_at : List PyData → FR} {g_numbers_ahead : List PyData → FR} (nm : Nm mg) (A : At K mg "gone_down" st_gone_down ["one", "other", "seat"]) (D_empties_below : DP P w K mg base 2 "empties_below" st_empties_below ["seating", "seat"] 2 false g_empties_below) (D_empty_at : DP P w K mg base 2 "empty_at" st_empty_at ["seating", "number"] 2 false g_empty_at) (D_numbers_ahead : DP P w K mg base 2 "numbers_ahead" st_numbers_ahead ["seating"] 1 false g_numbers_ahead) : DP P w K mg base 3 "gone_down" st_gone_down ["one", "other", "seat"] 3 false (runP 8 (sv_gone_down g_empties_below g_empty_at g_numbers_ahead)) :=
  DP.make A sc_gone_down (.inl rfl) fun f cd A outer s H E hr => (
    have hu := room_u hr.rm; have hgd := hr.gd;
    (pss_Dcons (psd_asg 3 sc_gone_down.nd (cP_ D_empties_below hr (by omega) (takes_of rfl rfl rfl rfl) (pad_cons (pd_var 0) (pad_cons (pd_var 2) pad_nil))))
    (pss_Dcons (psd_asg 4 sc_gone_down.nd (pd_bin op_sub op2_subD (pd_var 2) (cP_ D_empty_at hr (by omega) (takes_of rfl rfl rfl rfl) (pad_cons (pd_var 1) (pad_cons (pd_var 3) pad_nil)))))
    (pss_Dcons (psd_asg 5 sc_gone_down.nd (pd_bltK (cr_maxBD rfl hu) opN_bestD nm.max_ (by rfl) (pad_cons (pd_fresh (pfd_lc [("first", 5)] rfl sc_gone_down.nd (pid_seq (cP_ D_numbers_ahead hr (by omega) (takes_of rfl rfl rfl rfl) (pad_cons (pd_var 1) pad_nil))) (by rfl) (fun _ _ _ _ _ => (pgd_name 5 sc_gone_down.nd)) (fun _ _ _ _ _ => (ptsd_one (ptd_cmp (op_leD hu) cm_le (pd_var 5) (pd_var 3)))) (fun _ _ _ _ _ => (pd_var 5)))) pad_nil) (pkd_cons pd_int pkd_nil)))
    (pss_Dcons (psd_asg 6 sc_gone_down.nd (pd_blt (cr_maxB rfl hu) opN_best nm.max_ (by rfl) (pad_cons (pd_bin op_addD op2_addD (pd_fresh (pfd_lc [("own", 7)] rfl sc_gone_down.nd (pid_seq (pd_var 0)) (by rfl) (fun _ _ _ _ _ => (pgd_name 7 sc_gone_down.nd)) (fun _ _ _ _ _ => (ptsd_one (ptd_cmp (op_ltD hu) cm_lt (pd_var 7) (pd_var 2)))) (fun _ _ _ _ _ => (pd_bin op_addD op2_addD (pd_var 7) pd_int)))) (pd_lst (pad_cons (pd_bin op_addD op2_addD (pd_bin op_sub op2_subD (pd_var 2) (pd_var 3)) (pd_var 5)) pad_nil))) pad_nil)))
    (pss_Dcons (psd_ret (M1 := []) (pd_bin op_sub op2_subD (pd_var 2) (pd_bin op_mulD op2_mulD (pd_var 4) (pd_bin op_addD op2_addD (pd_bin op_fdivW op2_divI (pd_bin op_sub op2_subD (pd_var 2) (pd_var 6)) (pd_var 4)) pd_int))))
    pss_Dnil))))))
abbrev st_next_person : Stmt := top 29
theorem sc_next_person : FnScope ["one", "other", "person", "seat"] ["one", "other", "person"] (defScope st_next_person) := ⟨rfl, rfl, rfl, by decide +kernel, rfl, by decide +kernel, by decide +kernel⟩
noncomputable def sv_next_person (g_gone_down : List PyData → FR) (g_person_on : List PyData → FR) : Sv :=
  (sSeq (sAsg 3 (eBin atD (eVar 1) (eVar 2)))
  (sSeq (sWhile (BD.tCmp niD (eVar 3) (eVar 0))
  (sSeq (sAsg 3 (eCallP 3 none g_gone_down (eCons (eVar 0) (eCons (eVar 1) (eCons (eVar 3) eNil)))))
  sNil))
  (sSeq (sRet (eCallP 2 none g_person_on (eCons (eVar 0) (eCons (eVar 3) eNil))))
  sNil)))
theorem ok_next_person {g_gone_down : List PyData → FR} {g_person_on : List PyData → FR} (nm : Nm mg) (A : At K mg "next_person" st_next_person ["one", "other", "person"]) (D_gone_down : DP P w K mg base 3 "gone_down" st_gone_down ["one", "other", "seat"] 3 false g_gone_down) (D_person_on : DP P w K mg base 3 "person_on" st_person_on ["seating", "seat"] 2 false g_person_on) : DP P w K mg base 4 "next_person" st_next_person ["one", "other", "person"] 3 false (runP 4 (sv_next_person g_gone_down g_person_on)) :=
  DP.make A sc_next_person (.inl rfl) fun f cd A outer s H E hr => (
    have hu := room_u hr.rm; have hgd := hr.gd;
    (pss_Dcons (psd_asg 3 sc_next_person.nd (pd_ix (pd_var 1) (pd_var 2)))
    (pss_Dcons (psd_while (passes_of rfl) (ptd_cmp (op_niDD hu) cm_ni (pd_var 3) (pd_var 0))
    (pss_Dcons (psd_asg 3 sc_next_person.nd (cP_ D_gone_down hr (by omega) (takes_of rfl rfl rfl rfl) (pad_cons (pd_var 0) (pad_cons (pd_var 1) (pad_cons (pd_var 3) pad_nil)))))
    pss_Dnil))
    (pss_Dcons (psd_ret (M1 := []) (cP_ D_person_on hr (by omega) (takes_of rfl rfl rfl rfl) (pad_cons (pd_var 0) (pad_cons (pd_var 3) pad_nil))))
    pss_Dnil))))
abbrev st_ring_of : Stmt := top 30
theorem sc_ring_of : FnScope ["one", "other", "person", "found", "after"] ["one", "other", "person"] (defScope st_ring_of) := ⟨rfl, rfl, rfl, by decide +kernel, rfl, by decide +kernel, by decide +kernel⟩
noncomputable def sv_ring_of (g_next_person : List PyData → FR) : Sv :=
  (sSeq (sPar (gsCons (gNm 3) (gsCons (gNm 4) gsNil)) (eCons (eAppF fId (eCons (eVar 2) eNil)) (eCons (eCallP 3 none g_next_person (eCons (eVar 0) (eCons (eVar 1) (eCons (eVar 2) eNil)))) eNil)))
  (sSeq (sWhile (BD.tCmp neD (eVar 4) (eVar 2))
  (sSeq (sExpr (eMut 3 fAppend (eCons (eVar 4) eNil)))
  (sSeq (sAsg 4 (eCallP 3 none g_next_person (eCons (eVar 0) (eCons (eVar 1) (eCons (eVar 4) eNil)))))
  sNil)))
  (sSeq (sRet (eApp tupD (eCons (eVar 3) eNil)))
  sNil)))
theorem ok_ring_of {g_next_person : List PyData → FR} (nm : Nm mg) (A : At K mg "ring_of" st_ring_of ["one", "other", "person"]) (D_next_person : DP P w K mg base 4 "next_person" st_next_person ["one", "other", "person"] 3 false g_next_person) : DP P w K mg base 5 "ring_of" st_ring_of ["one", "other", "person"] 3 false (runP 5 (sv_ring_of g_next_person)) :=
  DP.make A sc_ring_of (.inl rfl) fun f cd A outer s H E hr => (
    have hu := room_u hr.rm; have hgd := hr.gd;
    (pss_Dcons (psd_parFP 3 4 rfl sc_ring_of.nd (pfd_lst (pad_cons (pd_var 2) pad_nil)) (cP_ D_next_person hr (by omega) (takes_of rfl rfl rfl rfl) (pad_cons (pd_var 0) (pad_cons (pd_var 1) (pad_cons (pd_var 2) pad_nil)))))
    (pss_Dcons (psd_while (passes_of rfl) (ptd_cmp (op_neP hu) cm_ne (pd_var 4) (pd_var 2))
    (pss_Dcons (psd_expr (pd_mut 3 PySem.F.slot_list_append PySem.F.type_list_append mt_append opMu_append (pad_cons (pd_var 4) pad_nil)))
    (pss_Dcons (psd_asg 4 sc_ring_of.nd (cP_ D_next_person hr (by omega) (takes_of rfl rfl rfl rfl) (pad_cons (pd_var 0) (pad_cons (pd_var 1) (pad_cons (pd_var 4) pad_nil)))))
    pss_Dnil)))
    (pss_frz [] (pss_Dcons (psd_ret (M1 := []) (pd_typ call_tuple_of opN_tuple nm.tuple_ (by rfl) (pad_cons (pd_var 3) pad_nil)))
    pss_Dnil)))))
abbrev st_rings : Stmt := top 31
theorem sc_rings : FnScope ["one", "other", "person", "found", "seen"] ["one", "other"] (defScope st_rings) := ⟨rfl, rfl, rfl, by decide +kernel, rfl, by decide +kernel, by decide +kernel⟩
noncomputable def sv_rings (g_look_leads : List PyData → FR) (g_movers : List PyData → FR) (g_ring_of : List PyData → FR) : Sv :=
  (sSeq (sExpr (eCallP 2 none g_look_leads (eCons (eVar 0) (eCons (eVar 1) eNil))))
  (sSeq (sPar (gsCons (gNm 3) (gsCons (gNm 4) gsNil)) (eCons (eAppF fId eNil) (eCons (eAppF fId eNil) eNil)))
  (sSeq (sFor (gNm 2) (iSq (eCallP 2 none g_movers (eCons (eVar 0) (eCons (eVar 1) eNil))))
  (sSeq (sIf (BD.tCmp niD (eVar 2) (eVar 4))
  (sSeq (sExpr (eMut 3 fAppend (eCons (eCallP 3 none g_ring_of (eCons (eVar 0) (eCons (eVar 1) (eCons (eVar 2) eNil)))) eNil)))
  (sSeq (sExpr (eMut 4 fExtend (eCons (eIxM 3 (eUn negD (eC (.int 1)))) eNil)))
  sNil))
  sNil)
  sNil))
  (sSeq (sRet (eVar 3))
  sNil))))
theorem ok_rings {g_look_leads : List PyData → FR} {g_movers : List PyData → FR} {g_ring_of : List PyData → FR} (nm : Nm mg) (A : At K mg "rings" st_rings ["one", "other"]) (D_look_leads : DP P w K mg base 5 "look_leads" st_look_leads ["one", "other"] 2 false g_look_leads) (D_movers : DP P w K mg base 5 "movers" st_movers ["one", "other"] 2 false g_movers) (D_ring_of : DP P w K mg base 5 "ring_of" st_ring_of ["one", "other", "person"] 3 false g_ring_of) : DP P w K mg base 6 "rings" st_rings ["one", "other"] 2 false (runP 5 (sv_rings g_look_leads g_movers g_ring_of)) :=
  DP.make A sc_rings (.inl rfl) fun f cd A outer s H E hr => (
    have hu := room_u hr.rm; have hgd := hr.gd;
    (pss_Dcons (psd_expr (cP_ D_look_leads hr (by omega) (takes_of rfl rfl rfl rfl) (pad_cons (pd_var 0) (pad_cons (pd_var 1) pad_nil))))
    (pss_Dcons (psd_parFF 3 4 rfl sc_rings.nd (pfd_lst pad_nil) (pfd_lst pad_nil))
    (pss_Dcons (psd_for (passes_of rfl) rfl (pid_seq (cP_ D_movers hr (by omega) (takes_of rfl rfl rfl rfl) (pad_cons (pd_var 0) (pad_cons (pd_var 1) pad_nil)))) (pgd_name 2 sc_rings.nd)
    (pss_Dcons (psd_if (ptd_cmp (op_niDD hu) cm_ni (pd_var 2) (pd_varM 4))
    (pss_Dcons (psd_expr (pd_mut 3 PySem.F.slot_list_append PySem.F.type_list_append mt_append opMu_append (pad_cons (cP_ D_ring_of hr (by omega) (takes_of rfl rfl rfl rfl) (pad_cons (pd_var 0) (pad_cons (pd_var 1) (pad_cons (pd_var 2) pad_nil)))) pad_nil)))
    (pss_Dcons (psd_expr (pd_mut 4 PySem.F.slot_list_extend PySem.F.type_list_extend mt_ext2 opMu_ext (pad_cons (pd_ixM 3 (pd_un un_neg op1_neg pd_int)) pad_nil)))
    pss_Dnil))
    pss_Dnil)
    pss_Dnil))
    (pss_frz [] (pss_Dcons (psd_ret (M1 := []) (pd_var 3))
    pss_Dnil))))))
abbrev st_distance : Stmt := top 32
theorem sc_distance : FnScope ["one", "other"] ["one", "other"] (defScope st_distance) := ⟨rfl, rfl, rfl, by decide +kernel, rfl, by decide +kernel, by decide +kernel⟩
noncomputable def sv_distance (g_moved : List PyData → FR) (g_rings : List PyData → FR) : Sv :=
  (sSeq (sRet (eBin subD (eApp sumD (eCons (eCallP 2 none g_moved (eCons (eVar 0) (eCons (eVar 1) eNil))) eNil)) (eApp lenD (eCons (eCallP 2 none g_rings (eCons (eVar 0) (eCons (eVar 1) eNil))) eNil))))
  sNil)
theorem ok_distance {g_moved : List PyData → FR} {g_rings : List PyData → FR} (nm : Nm mg) (A : At K mg "distance" st_distance ["one", "other"]) (D_moved : DP P w K mg base 6 "moved" st_moved ["one", "other"] 2 false g_moved) (D_rings : DP P w K mg base 6 "rings" st_rings ["one", "other"] 2 false g_rings) : DP P w K mg base 7 "distance" st_distance ["one", "other"] 2 false (runP 2 (sv_distance g_moved g_rings)) :=
  DP.make A sc_distance (.inl rfl) fun f cd A outer s H E hr => (
    have hu := room_u hr.rm; have hgd := hr.gd;
    (pss_Dcons (psd_ret (M1 := []) (pd_bin op_sub op2_subD (pd_blt (cr_sum rfl) opN_sum nm.sum_ (by rfl) (pad_cons (cP_ D_moved hr (by omega) (takes_of rfl rfl rfl rfl) (pad_cons (pd_var 0) (pad_cons (pd_var 1) pad_nil))) pad_nil)) (pd_blt call_lenDD opN_len nm.len_ (by rfl) (pad_cons (cP_ D_rings hr (by omega) (takes_of rfl rfl rfl rfl) (pad_cons (pd_var 0) (pad_cons (pd_var 1) pad_nil))) pad_nil))))
    pss_Dnil))
abbrev st_seat_ahead : Stmt := top 16
theorem sc_seat_ahead : FnScope ["seating", "person", "found"] ["seating", "person"] (defScope st_seat_ahead) := ⟨rfl, rfl, rfl, by decide +kernel, rfl, by decide +kernel, by decide +kernel⟩
noncomputable def sv_seat_ahead : Sv :=
  (sSeq (sAsg 2 (eBin addD (eBin atD (eVar 0) (eVar 1)) (eC (.int 1))))
  (sSeq (sWhile (BD.tCmp inD (eVar 2) (eVar 0))
  (sSeq (sAug 2 (i2 (fun _ _ => true) fun i j => i + j) (eC (.int 1)))
  sNil))
  (sSeq (sRet (eVar 2))
  sNil)))
theorem ok_seat_ahead (nm : Nm mg) (A : At K mg "seat_ahead" st_seat_ahead ["seating", "person"])  : DP P w K mg base 1 "seat_ahead" st_seat_ahead ["seating", "person"] 2 false (runP 3 (sv_seat_ahead)) :=
  DP.make A sc_seat_ahead (.inl rfl) fun f cd A outer s H E hr => (
    have hu := room_u hr.rm; have hgd := hr.gd;
    (pss_Dcons (psd_asg 2 sc_seat_ahead.nd (pd_bin op_addD op2_addD (pd_ix (pd_var 0) (pd_var 1)) pd_int))
    (pss_Dcons (psd_while (passes_of rfl) (ptd_cmp (op_inDD hu) cm_in (pd_var 2) (pd_var 0))
    (pss_Dcons (psd_aug 2 sc_seat_ahead.nd iop_add op2_i20 pd_int)
    pss_Dnil))
    (pss_Dcons (psd_ret (M1 := []) (pd_var 2))
    pss_Dnil))))
abbrev st_look_person : Stmt := top 11
theorem sc_look_person : FnScope ["seating", "person"] ["seating", "person"] (defScope st_look_person) := ⟨rfl, rfl, rfl, by decide +kernel, rfl, by decide +kernel, by decide +kernel⟩
noncomputable def sv_look_person : Sv :=
  (sSeq (sIf (tNo (tTru (eChain leD ltD (eC (.int 0)) (eVar 1) (eApp lenD (eCons (eVar 0) eNil)))))
  (sSeq (sRaise "NoPerson" "person" (eVar 1))
  sNil)
  sNil)
  sNil)
theorem ok_look_person (nm : Nm mg) (A : At K mg "look_person" st_look_person ["seating", "person"])  (E_NoPerson : EC P w K mg base 1 "NoPerson" "person") : DP P w K mg base 3 "look_person" st_look_person ["seating", "person"] 2 false (runP 2 (sv_look_person)) :=
  DP.make A sc_look_person (.inl rfl) fun f cd A outer s H E hr => (
    have hu := room_u hr.rm; have hgd := hr.gd;
    (pss_Dcons (psd_if (ptd_not (ptd_chain (op_leD hu) cm_le (op_ltD hu) cm_lt pd_int (pd_var 1) (pd_blt call_lenDD opN_len nm.len_ (by rfl) (pad_cons (pd_var 0) pad_nil))))
    (pss_Dcons (psd_raise (M1 := []) E_NoPerson (hr.mono (by decide)) rfl (takes_of rfl rfl rfl rfl) (pd_var 1))
    pss_Dnil)
    pss_Dnil)
    pss_Dnil))
abbrev st_moved_to : Stmt := top 17
theorem sc_moved_to : FnScope ["seating", "person", "seat", "other", "own"] ["seating", "person", "seat"] (defScope st_moved_to) := ⟨rfl, rfl, rfl, by decide +kernel, rfl, by decide +kernel, by decide +kernel⟩
noncomputable def sv_moved_to : Sv :=
  (sSeq (sRet (eApp tupD (eCons (eLc [3, 4] (gTu (gsCons (gNm 3) (gsCons (gNm 4) gsNil))) (iEn (eVar 0)) tYs (eIf (BD.tCmp eqD (eVar 3) (eVar 1)) (eVar 2) (eVar 4))) eNil)))
  sNil)
theorem ok_moved_to (nm : Nm mg) (A : At K mg "moved_to" st_moved_to ["seating", "person", "seat"])  : DP P w K mg base 1 "moved_to" st_moved_to ["seating", "person", "seat"] 3 false (runP 5 (sv_moved_to)) :=
  DP.make A sc_moved_to (.inl rfl) fun f cd A outer s H E hr => (
    have hu := room_u hr.rm; have hgd := hr.gd;
    (pss_Dcons (psd_ret (M1 := []) (pd_typ call_tuple_of opN_tuple nm.tuple_ (by rfl) (pad_cons (pd_fresh (pfd_lc [("other", 3), ("own", 4)] rfl sc_moved_to.nd (pid_enum nm.enumerate_ (pd_var 0)) (by rfl) (fun _ _ _ _ _ => (pgd_tup rfl (pgsd_cons (pgd_name 3 sc_moved_to.nd) (pgsd_cons (pgd_name 4 sc_moved_to.nd) pgsd_nil)) (gsCons_len (gsCons_len gsNil_len)))) (fun _ _ _ _ _ => ptsd_nil) (fun _ _ _ _ _ => (pd_if (ptd_cmp (op_eqP hu) cm_eq (pd_var 3) (pd_var 1)) (pd_var 2) (pd_var 4))))) pad_nil)))
    pss_Dnil))
abbrev st_called : Stmt := top 18
theorem sc_called : FnScope ["seating", "person"] ["seating", "person"] (defScope st_called) := ⟨rfl, rfl, rfl, by decide +kernel, rfl, by decide +kernel, by decide +kernel⟩
noncomputable def sv_called (g_look_person : List PyData → FR) (g_moved_to : List PyData → FR) (g_seat_ahead : List PyData → FR) : Sv :=
  (sSeq (sExpr (eCallP 2 none g_look_person (eCons (eVar 0) (eCons (eVar 1) eNil))))
  (sSeq (sRet (eCallP 3 none g_moved_to (eCons (eVar 0) (eCons (eVar 1) (eCons (eCallP 2 none g_seat_ahead (eCons (eVar 0) (eCons (eVar 1) eNil))) eNil)))))
  sNil))
theorem ok_called {g_look_person : List PyData → FR} {g_moved_to : List PyData → FR} {g_seat_ahead : List PyData → FR} (nm : Nm mg) (A : At K mg "called" st_called ["seating", "person"]) (D_look_person : DP P w K mg base 3 "look_person" st_look_person ["seating", "person"] 2 false g_look_person) (D_moved_to : DP P w K mg base 3 "moved_to" st_moved_to ["seating", "person", "seat"] 3 false g_moved_to) (D_seat_ahead : DP P w K mg base 3 "seat_ahead" st_seat_ahead ["seating", "person"] 2 false g_seat_ahead) : DP P w K mg base 4 "called" st_called ["seating", "person"] 2 false (runP 2 (sv_called g_look_person g_moved_to g_seat_ahead)) :=
  DP.make A sc_called (.inl rfl) fun f cd A outer s H E hr => (
    have hu := room_u hr.rm; have hgd := hr.gd;
    (pss_Dcons (psd_expr (cP_ D_look_person hr (by omega) (takes_of rfl rfl rfl rfl) (pad_cons (pd_var 0) (pad_cons (pd_var 1) pad_nil))))
    (pss_Dcons (psd_ret (M1 := []) (cP_ D_moved_to hr (by omega) (takes_of rfl rfl rfl rfl) (pad_cons (pd_var 0) (pad_cons (pd_var 1) (pad_cons (cP_ D_seat_ahead hr (by omega) (takes_of rfl rfl rfl rfl) (pad_cons (pd_var 0) (pad_cons (pd_var 1) pad_nil))) pad_nil)))))
    pss_Dnil)))
abbrev st_firsts : Stmt := top 33
theorem sc_firsts : FnScope ["one", "other", "person", "far", "found"] ["one", "other"] (defScope st_firsts) := ⟨rfl, rfl, rfl, by decide +kernel, rfl, by decide +kernel, by decide +kernel⟩
noncomputable def sv_firsts (g_distance : List PyData → FR) (g_movers : List PyData → FR) (g_seat_ahead : List PyData → FR) (g_called : List PyData → FR) : Sv :=
  (sSeq (sPar (gsCons (gNm 3) (gsCons (gNm 4) gsNil)) (eCons (eCallP 2 none g_distance (eCons (eVar 0) (eCons (eVar 1) eNil))) (eCons (eAppF fId eNil) eNil)))
  (sSeq (sFor (gNm 2) (iSq (eCallP 2 none g_movers (eCons (eVar 0) (eCons (eVar 1) eNil))))
  (sSeq (sIf (tAn (BD.tCmp leD (eCallP 2 none g_seat_ahead (eCons (eVar 0) (eCons (eVar 2) eNil))) (eBin atD (eVar 1) (eVar 2))) (BD.tCmp eqD (eCallP 2 none g_distance (eCons (eCallP 2 none g_called (eCons (eVar 0) (eCons (eVar 2) eNil))) (eCons (eVar 1) eNil))) (eBin subD (eVar 3) (eC (.int 1)))))
  (sSeq (sExpr (eMut 4 fAppend (eCons (eVar 2) eNil)))
  sNil)
  sNil)
  sNil))
  (sSeq (sRet (eVar 4))
  sNil)))
theorem ok_firsts {g_distance : List PyData → FR} {g_movers : List PyData → FR} {g_seat_ahead : List PyData → FR} {g_called : List PyData → FR} (nm : Nm mg) (A : At K mg "firsts" st_firsts ["one", "other"]) (D_distance : DP P w K mg base 7 "distance" st_distance ["one", "other"] 2 false g_distance) (D_movers : DP P w K mg base 7 "movers" st_movers ["one", "other"] 2 false g_movers) (D_seat_ahead : DP P w K mg base 7 "seat_ahead" st_seat_ahead ["seating", "person"] 2 false g_seat_ahead) (D_called : DP P w K mg base 7 "called" st_called ["seating", "person"] 2 false g_called) : DP P w K mg base 8 "firsts" st_firsts ["one", "other"] 2 false (runP 5 (sv_firsts g_distance g_movers g_seat_ahead g_called)) :=
  DP.make A sc_firsts (.inl rfl) fun f cd A outer s H E hr => (
    have hu := room_u hr.rm; have hgd := hr.gd;
    (pss_Dcons (psd_parPF 3 4 rfl sc_firsts.nd (cP_ D_distance hr (by omega) (takes_of rfl rfl rfl rfl) (pad_cons (pd_var 0) (pad_cons (pd_var 1) pad_nil))) (pfd_lst pad_nil))
    (pss_Dcons (psd_for (passes_of rfl) rfl (pid_seq (cP_ D_movers hr (by omega) (takes_of rfl rfl rfl rfl) (pad_cons (pd_var 0) (pad_cons (pd_var 1) pad_nil)))) (pgd_name 2 sc_firsts.nd)
    (pss_Dcons (psd_if (PWD.pt (pwd_and (ptd_cmp (op_leD hu) cm_le (cP_ D_seat_ahead hr (by omega) (takes_of rfl rfl rfl rfl) (pad_cons (pd_var 0) (pad_cons (pd_var 2) pad_nil))) (pd_ix (pd_var 1) (pd_var 2))) (pwd_and1 (ptd_cmp (op_eqP hu) cm_eq (cP_ D_distance hr (by omega) (takes_of rfl rfl rfl rfl) (pad_cons (cP_ D_called hr (by omega) (takes_of rfl rfl rfl rfl) (pad_cons (pd_var 0) (pad_cons (pd_var 2) pad_nil))) (pad_cons (pd_var 1) pad_nil))) (pd_bin op_sub op2_subD (pd_var 3) pd_int)))))
    (pss_Dcons (psd_expr (pd_mut 4 PySem.F.slot_list_append PySem.F.type_list_append mt_append opMu_append (pad_cons (pd_var 2) pad_nil)))
    pss_Dnil)
    pss_Dnil)
    pss_Dnil))
    (pss_frz [] (pss_Dcons (psd_ret (M1 := []) (pd_var 4))
    pss_Dnil)))))
abbrev st_next_call : Stmt := top 34
theorem sc_next_call : FnScope ["one", "other", "lowest", "found", "gap", "person"] ["one", "other"] (defScope st_next_call) := ⟨rfl, rfl, rfl, by decide +kernel, rfl, by decide +kernel, by decide +kernel⟩
noncomputable def sv_next_call (g_movers : List PyData → FR) (g_person_on : List PyData → FR) (g_seat_ahead : List PyData → FR) : Sv :=
  (sSeq (sAsg 2 (eApp (bestD mnI) (eCons (eLc [5] (gNm 5) (iSq (eCallP 2 none g_movers (eCons (eVar 0) (eCons (eVar 1) eNil)))) tYs (eBin atD (eVar 0) (eVar 5))) eNil)))
  (sSeq (sAsg 3 (eCallP 2 none g_person_on (eCons (eVar 0) (eCons (eVar 2) eNil))))
  (sSeq (sAsg 4 (eCallP 2 none g_seat_ahead (eCons (eVar 0) (eCons (eVar 3) eNil))))
  (sSeq (sWhile (BD.tCmp ltD (eBin atD (eVar 1) (eVar 3)) (eVar 4))
  (sSeq (sAsg 3 (eCallP 2 none g_person_on (eCons (eVar 0) (eCons (eBin atD (eVar 1) (eVar 3)) eNil))))
  sNil))
  (sSeq (sRet (eVar 3))
  sNil)))))
theorem ok_next_call {g_movers : List PyData → FR} {g_person_on : List PyData → FR} {g_seat_ahead : List PyData → FR} (nm : Nm mg) (A : At K mg "next_call" st_next_call ["one", "other"]) (D_movers : DP P w K mg base 1 "movers" st_movers ["one", "other"] 2 false g_movers) (D_person_on : DP P w K mg base 1 "person_on" st_person_on ["seating", "seat"] 2 false g_person_on) (D_seat_ahead : DP P w K mg base 1 "seat_ahead" st_seat_ahead ["seating", "person"] 2 false g_seat_ahead) : DP P w K mg base 2 "next_call" st_next_call ["one", "other"] 2 false (runP 6 (sv_next_call g_movers g_person_on g_seat_ahead)) :=
  DP.make A sc_next_call (.inl rfl) fun f cd A outer s H E hr => (
    have hu := room_u hr.rm; have hgd := hr.gd;
    (pss_Dcons (psd_asg 2 sc_next_call.nd (pd_blt (cr_minB rfl hu) opN_best nm.min_ (by rfl) (pad_cons (pd_fresh (pfd_lc [("person", 5)] rfl sc_next_call.nd (pid_seq (cP_ D_movers hr (by omega) (takes_of rfl rfl rfl rfl) (pad_cons (pd_var 0) (pad_cons (pd_var 1) pad_nil)))) (by rfl) (fun _ _ _ _ _ => (pgd_name 5 sc_next_call.nd)) (fun _ _ _ _ _ => ptsd_nil) (fun _ _ _ _ _ => (pd_ix (pd_var 0) (pd_var 5))))) pad_nil)))
    (pss_Dcons (psd_asg 3 sc_next_call.nd (cP_ D_person_on hr (by omega) (takes_of rfl rfl rfl rfl) (pad_cons (pd_var 0) (pad_cons (pd_var 2) pad_nil))))
    (pss_Dcons (psd_asg 4 sc_next_call.nd (cP_ D_seat_ahead hr (by omega) (takes_of rfl rfl rfl rfl) (pad_cons (pd_var 0) (pad_cons (pd_var 3) pad_nil))))
    (pss_Dcons (psd_while (passes_of rfl) (ptd_cmp (op_ltD hu) cm_lt (pd_ix (pd_var 1) (pd_var 3)) (pd_var 4))
    (pss_Dcons (psd_asg 3 sc_next_call.nd (cP_ D_person_on hr (by omega) (takes_of rfl rfl rfl rfl) (pad_cons (pd_var 0) (pad_cons (pd_ix (pd_var 1) (pd_var 3)) pad_nil))))
    pss_Dnil))
    (pss_Dcons (psd_ret (M1 := []) (pd_var 3))
    pss_Dnil))))))
abbrev st_shortest : Stmt := top 35
theorem sc_shortest : FnScope ["one", "other", "many", "here", "found"] ["one", "other"] (defScope st_shortest) := ⟨rfl, rfl, rfl, by decide +kernel, rfl, by decide +kernel, by decide +kernel⟩
noncomputable def sv_shortest (g_distance : List PyData → FR) (g_next_call : List PyData → FR) (g_called : List PyData → FR) : Sv :=
  (sSeq (sAsg 2 (eCallP 2 none g_distance (eCons (eVar 0) (eCons (eVar 1) eNil))))
  (sSeq (sIf (BD.tCmp gtD (eVar 2) (eC (.int 300)))
  (sSeq (sRaise "TooMany" "many" (eVar 2))
  sNil)
  sNil)
  (sSeq (sPar (gsCons (gNm 3) (gsCons (gNm 4) gsNil)) (eCons (eApp tupD (eCons (eVar 0) eNil)) (eCons (eAppF fId eNil) eNil)))
  (sSeq (sWhile (BD.tCmp neD (eVar 3) (eApp tupD (eCons (eVar 1) eNil)))
  (sSeq (sExpr (eMut 4 fAppend (eCons (eCallP 2 none g_next_call (eCons (eVar 3) (eCons (eVar 1) eNil))) eNil)))
  (sSeq (sAsg 3 (eCallP 2 none g_called (eCons (eVar 3) (eCons (eIxM 4 (eUn negD (eC (.int 1)))) eNil))))
  sNil)))
  (sSeq (sRet (eVar 4))
  sNil)))))
theorem ok_shortest {g_distance : List PyData → FR} {g_next_call : List PyData → FR} {g_called : List PyData → FR} (nm : Nm mg) (A : At K mg "shortest" st_shortest ["one", "other"]) (D_distance : DP P w K mg base 7 "distance" st_distance ["one", "other"] 2 false g_distance) (D_next_call : DP P w K mg base 7 "next_call" st_next_call ["one", "other"] 2 false g_next_call) (D_called : DP P w K mg base 7 "called" st_called ["seating", "person"] 2 false g_called) (E_TooMany : EC P w K mg base 1 "TooMany" "many") : DP P w K mg base 8 "shortest" st_shortest ["one", "other"] 2 false (runP 5 (sv_shortest g_distance g_next_call g_called)) :=
  DP.make A sc_shortest (.inl rfl) fun f cd A outer s H E hr => (
    have hu := room_u hr.rm; have hgd := hr.gd;
    (pss_Dcons (psd_asg 2 sc_shortest.nd (cP_ D_distance hr (by omega) (takes_of rfl rfl rfl rfl) (pad_cons (pd_var 0) (pad_cons (pd_var 1) pad_nil))))
    (pss_Dcons (psd_if (ptd_cmp (op_gtD hu) cm_gt (pd_var 2) (pd_mc nm.MOST_STEPS_c))
    (pss_Dcons (psd_raise (M1 := []) E_TooMany (hr.mono (by decide)) rfl (takes_of rfl rfl rfl rfl) (pd_var 2))
    pss_Dnil)
    pss_Dnil)
    (pss_Dcons (psd_parPF 3 4 rfl sc_shortest.nd (pd_typ call_tuple_of opN_tuple nm.tuple_ (by rfl) (pad_cons (pd_var 0) pad_nil)) (pfd_lst pad_nil))
    (pss_Dcons (psd_while (passes_of rfl) (ptd_cmp (op_neP hu) cm_ne (pd_var 3) (pd_typ call_tuple_of opN_tuple nm.tuple_ (by rfl) (pad_cons (pd_var 1) pad_nil)))
    (pss_Dcons (psd_expr (pd_mut 4 PySem.F.slot_list_append PySem.F.type_list_append mt_append opMu_append (pad_cons (cP_ D_next_call hr (by omega) (takes_of rfl rfl rfl rfl) (pad_cons (pd_var 3) (pad_cons (pd_var 1) pad_nil))) pad_nil)))
    (pss_Dcons (psd_asg 3 sc_shortest.nd (cP_ D_called hr (by omega) (takes_of rfl rfl rfl rfl) (pad_cons (pd_var 3) (pad_cons (pd_ixM 4 (pd_un un_neg op1_neg pd_int)) pad_nil))))
    pss_Dnil)))
    (pss_frz [] (pss_Dcons (psd_ret (M1 := []) (pd_var 4))
    pss_Dnil)))))))
abbrev st_ways_left : Stmt := top 37
theorem sc_ways_left : FnScope ["starts", "limit", "taken", "found", "place", "start", "others", "seat"] ["starts", "limit", "taken"] (defScope st_ways_left) := ⟨rfl, rfl, rfl, by decide +kernel, rfl, by decide +kernel, by decide +kernel⟩
noncomputable def sv_ways_left : Sv :=
  (sSeq (sAsg 3 (eC (.int 1)))
  (sSeq (sFor (gTu (gsCons (gNm 4) (gsCons (gNm 5) gsNil))) (iEn (eAppF sortRF (eApd 1 1 (eCons (eVar 0) eNil) (eCons (eC (.bool true)) eNil))))
  (sSeq (sAsg 6 (eApp lenD (eCons (eLc [7] (gNm 7) (iSq (eVar 2)) (tTru (eChain leD ltD (eVar 5) (eVar 7) (eVar 1))) (eVar 7)) eNil)))
  (sSeq (sAug 3 (i2 mulC fun i j => i * j) (eApp max2D (eCons (eC (.int 0)) (eCons (eBin subD (eBin subD (eBin subD (eVar 1) (eVar 5)) (eVar 4)) (eVar 6)) eNil))))
  sNil)))
  (sSeq (sRet (eVar 3))
  sNil)))
theorem ok_ways_left (nm : Nm mg) (A : At K mg "ways_left" st_ways_left ["starts", "limit", "taken"])  : DP P w K mg base 1 "ways_left" st_ways_left ["starts", "limit", "taken"] 3 false (runP 8 (sv_ways_left)) :=
  DP.make A sc_ways_left (.inl rfl) fun f cd A outer s H E hr => (
    have hu := room_u hr.rm; have hgd := hr.gd;
    (pss_Dcons (psd_asg 3 sc_ways_left.nd pd_int)
    (pss_Dcons (psd_for (passes_of rfl) rfl (pid_enum nm.enumerate_ (pd_fresh (pfd_bltK (call_sortRD hu) opF_sortR nm.sorted_ (by rfl) (pad_cons (pd_var 0) pad_nil) (pkd_cons pd_bl pkd_nil)))) (pgd_tup rfl (pgsd_cons (pgd_name 4 sc_ways_left.nd) (pgsd_cons (pgd_name 5 sc_ways_left.nd) pgsd_nil)) (gsCons_len (gsCons_len gsNil_len)))
    (pss_Dcons (psd_asg 6 sc_ways_left.nd (pd_blt call_lenDD opN_len nm.len_ (by rfl) (pad_cons (pd_fresh (pfd_lc [("seat", 7)] rfl sc_ways_left.nd (pid_seq (pd_var 2)) (by rfl) (fun _ _ _ _ _ => (pgd_name 7 sc_ways_left.nd)) (fun _ _ _ _ _ => (ptsd_one (ptd_chain (op_leD hu) cm_le (op_ltD hu) cm_lt (pd_var 5) (pd_var 7) (pd_var 1)))) (fun _ _ _ _ _ => (pd_var 7)))) pad_nil)))
    (pss_Dcons (psd_aug 3 sc_ways_left.nd iop_mulJ op2_mulI (pd_blt (call_max2 rfl) opN_max2 nm.max_ (by rfl) (pad_cons pd_int (pad_cons (pd_bin op_sub op2_subD (pd_bin op_sub op2_subD (pd_bin op_sub op2_subD (pd_var 1) (pd_var 5)) (pd_var 4)) (pd_var 6)) pad_nil))))
    pss_Dnil)))
    (pss_Dcons (psd_ret (M1 := []) (pd_var 3))
    pss_Dnil))))
abbrev st_futures_many : Stmt := top 44
theorem sc_futures_many : FnScope ["seating", "limit"] ["seating", "limit"] (defScope st_futures_many) := ⟨rfl, rfl, rfl, by decide +kernel, rfl, by decide +kernel, by decide +kernel⟩
noncomputable def sv_futures_many (g_ways_left : List PyData → FR) : Sv :=
  (sSeq (sRet (eCallP 3 none g_ways_left (eCons (eVar 0) (eCons (eVar 1) (eCons (eApp fLst eNil) eNil)))))
  sNil)
theorem ok_futures_many {g_ways_left : List PyData → FR} (nm : Nm mg) (A : At K mg "futures_many" st_futures_many ["seating", "limit"]) (D_ways_left : DP P w K mg base 1 "ways_left" st_ways_left ["starts", "limit", "taken"] 3 false g_ways_left) : DP P w K mg base 2 "futures_many" st_futures_many ["seating", "limit"] 2 false (runP 2 (sv_futures_many g_ways_left)) :=
  DP.make A sc_futures_many (.inl rfl) fun f cd A outer s H E hr => (
    have hu := room_u hr.rm; have hgd := hr.gd;
    (pss_Dcons (psd_ret (M1 := []) (cP_ D_ways_left hr (by omega) (takes_of rfl rfl rfl rfl) (pad_cons (pd_var 0) (pad_cons (pd_var 1) (pad_cons (pd_lst pad_nil) pad_nil)))))
    pss_Dnil))
abbrev st_look_few : Stmt := top 48
theorem sc_look_few : FnScope ["seating", "limit", "many"] ["seating", "limit"] (defScope st_look_few) := ⟨rfl, rfl, rfl, by decide +kernel, rfl, by decide +kernel, by decide +kernel⟩
noncomputable def sv_look_few (g_futures_many : List PyData → FR) : Sv :=
  (sSeq (sAsg 2 (eCallP 2 none g_futures_many (eCons (eVar 0) (eCons (eVar 1) eNil))))
  (sSeq (sIf (BD.tCmp gtD (eVar 2) (eC (.int 300)))
  (sSeq (sRaise "TooMany" "many" (eVar 2))
  sNil)
  sNil)
  sNil))
theorem ok_look_few {g_futures_many : List PyData → FR} (nm : Nm mg) (A : At K mg "look_few" st_look_few ["seating", "limit"]) (D_futures_many : DP P w K mg base 2 "futures_many" st_futures_many ["seating", "limit"] 2 false g_futures_many) (E_TooMany : EC P w K mg base 1 "TooMany" "many") : DP P w K mg base 3 "look_few" st_look_few ["seating", "limit"] 2 false (runP 3 (sv_look_few g_futures_many)) :=
  DP.make A sc_look_few (.inl rfl) fun f cd A outer s H E hr => (
    have hu := room_u hr.rm; have hgd := hr.gd;
    (pss_Dcons (psd_asg 2 sc_look_few.nd (cP_ D_futures_many hr (by omega) (takes_of rfl rfl rfl rfl) (pad_cons (pd_var 0) (pad_cons (pd_var 1) pad_nil))))
    (pss_Dcons (psd_if (ptd_cmp (op_gtD hu) cm_gt (pd_var 2) (pd_mc nm.MOST_c))
    (pss_Dcons (psd_raise (M1 := []) E_TooMany (hr.mono (by decide)) rfl (takes_of rfl rfl rfl rfl) (pd_var 2))
    pss_Dnil)
    pss_Dnil)
    pss_Dnil)))
abbrev st_next_layer : Stmt := top 50
theorem sc_next_layer : FnScope ["layer", "other", "far", "found", "known", "here", "ways", "person", "there"] ["layer", "other", "far"] (defScope st_next_layer) := ⟨rfl, rfl, rfl, by decide +kernel, rfl, by decide +kernel, by decide +kernel⟩
noncomputable def sv_next_layer : Sv :=
  (sSeq sNev
  (sSeq sNev
  (sSeq (sRet (eVar 3))
  sNil)))
theorem ok_next_layer (nm : Nm mg) (A : At K mg "next_layer" st_next_layer ["layer", "other", "far"])  : DP P w K mg base 1 "next_layer" st_next_layer ["layer", "other", "far"] 3 false (runP 9 (sv_next_layer)) :=
  DP.make A sc_next_layer (.inl rfl) fun f cd A outer s H E hr => (
    have hu := room_u hr.rm; have hgd := hr.gd;
    (pss_Dcons (psd_never (M1 := [3, 4]))
    (pss_Dcons (psd_never (M1 := []))
    (pss_Dcons (psd_ret (M1 := []) (pd_var 3))
    pss_Dnil))))
abbrev st_ways_many : Stmt := top 51
theorem sc_ways_many : FnScope ["one", "other", "far", "layer", "steps"] ["one", "other"] (defScope st_ways_many) := ⟨rfl, rfl, rfl, by decide +kernel, rfl, by decide +kernel, by decide +kernel⟩
noncomputable def sv_ways_many (g_distance : List PyData → FR) (g_look_few : List PyData → FR) (g_next_layer : List PyData → FR) : Sv :=
  (sSeq (sAsg 2 (eCallP 2 none g_distance (eCons (eVar 0) (eCons (eVar 1) eNil))))
  (sSeq (sExpr (eCallP 2 none g_look_few (eCons (eVar 0) (eCons (eBin addD (eApp (bestDD mxI) (eApd 1 1 (eCons (eVar 1) eNil) (eCons (eUn negD (eC (.int 1))) eNil))) (eC (.int 1))) eNil))))
  (sSeq sNev
  (sSeq (sFor (gNm 4) (iR1 (eVar 2))
  (sSeq (sAsg 3 (eCallP 3 none g_next_layer (eCons (eVar 3) (eCons (eVar 1) (eCons (eBin subD (eBin subD (eVar 2) (eVar 4)) (eC (.int 1))) eNil)))))
  sNil))
  (sSeq (sRet (eBin atD (eVar 3) (eApp tupD (eCons (eVar 1) eNil))))
  sNil)))))
theorem ok_ways_many {g_distance : List PyData → FR} {g_look_few : List PyData → FR} {g_next_layer : List PyData → FR} (nm : Nm mg) (A : At K mg "ways_many" st_ways_many ["one", "other"]) (D_distance : DP P w K mg base 7 "distance" st_distance ["one", "other"] 2 false g_distance) (D_look_few : DP P w K mg base 7 "look_few" st_look_few ["seating", "limit"] 2 false g_look_few) (D_next_layer : DP P w K mg base 7 "next_layer" st_next_layer ["layer", "other", "far"] 3 false g_next_layer) : DP P w K mg base 8 "ways_many" st_ways_many ["one", "other"] 2 false (runP 5 (sv_ways_many g_distance g_look_few g_next_layer)) :=
  DP.make A sc_ways_many (.inl rfl) fun f cd A outer s H E hr => (
    have hu := room_u hr.rm; have hgd := hr.gd;
    (pss_Dcons (psd_asg 2 sc_ways_many.nd (cP_ D_distance hr (by omega) (takes_of rfl rfl rfl rfl) (pad_cons (pd_var 0) (pad_cons (pd_var 1) pad_nil))))
    (pss_Dcons (psd_expr (cP_ D_look_few hr (by omega) (takes_of rfl rfl rfl rfl) (pad_cons (pd_var 0) (pad_cons (pd_bin op_addD op2_addD (pd_bltK (cr_maxBD rfl hu) opN_bestD nm.max_ (by rfl) (pad_cons (pd_var 1) pad_nil) (pkd_cons (pd_un un_neg op1_neg pd_int) pkd_nil)) pd_int) pad_nil))))
    (pss_Dcons (psd_never (M1 := []))
    (pss_Dcons (psd_for (passes_of rfl) rfl (pid_r1 nm.range_ (pd_var 2)) (pgd_name 4 sc_ways_many.nd)
    (pss_Dcons (psd_asg 3 sc_ways_many.nd (cP_ D_next_layer hr (by omega) (takes_of rfl rfl rfl rfl) (pad_cons (pd_var 3) (pad_cons (pd_var 1) (pad_cons (pd_bin op_sub op2_subD (pd_bin op_sub op2_subD (pd_var 2) (pd_var 4)) pd_int) pad_nil)))))
    pss_Dnil))
    (pss_Dcons (psd_ret (M1 := []) (pd_ix (pd_var 3) (pd_typ call_tuple_of opN_tuple nm.tuple_ (by rfl) (pad_cons (pd_var 1) pad_nil))))
    pss_Dnil))))))
abbrev st_free_many : Stmt := top 40
theorem sc_free_many : FnScope ["begin", "end", "taken", "seat"] ["begin", "end", "taken"] (defScope st_free_many) := ⟨rfl, rfl, rfl, by decide +kernel, rfl, by decide +kernel, by decide +kernel⟩
noncomputable def sv_free_many : Sv :=
  (sSeq (sRet (eBin subD (eBin subD (eVar 1) (eVar 0)) (eApp lenD (eCons (eLc [3] (gNm 3) (iSq (eVar 2)) (tTru (eChain leD ltD (eVar 0) (eVar 3) (eVar 1))) (eVar 3)) eNil))))
  sNil)
theorem ok_free_many (nm : Nm mg) (A : At K mg "free_many" st_free_many ["begin", "end", "taken"])  : DP P w K mg base 1 "free_many" st_free_many ["begin", "end", "taken"] 3 false (runP 4 (sv_free_many)) :=
  DP.make A sc_free_many (.inl rfl) fun f cd A outer s H E hr => (
    have hu := room_u hr.rm; have hgd := hr.gd;
    (pss_Dcons (psd_ret (M1 := []) (pd_bin op_sub op2_subD (pd_bin op_sub op2_subD (pd_var 1) (pd_var 0)) (pd_blt call_lenDD opN_len nm.len_ (by rfl) (pad_cons (pd_fresh (pfd_lc [("seat", 3)] rfl sc_free_many.nd (pid_seq (pd_var 2)) (by rfl) (fun _ _ _ _ _ => (pgd_name 3 sc_free_many.nd)) (fun _ _ _ _ _ => (ptsd_one (ptd_chain (op_leD hu) cm_le (op_ltD hu) cm_lt (pd_var 0) (pd_var 3) (pd_var 1)))) (fun _ _ _ _ _ => (pd_var 3)))) pad_nil))))
    pss_Dnil))
abbrev st_ways_ahead : Stmt := top 43
theorem sc_ways_ahead : FnScope ["parts", "found", "seat", "begin", "end", "each"] ["parts", "found", "seat"] (defScope st_ways_ahead) := ⟨rfl, rfl, rfl, by decide +kernel, rfl, by decide +kernel, by decide +kernel⟩
noncomputable def sv_ways_ahead (g_free_many : List PyData → FR) : Sv :=
  (sSeq (sRet (eApp sumD (eCons (eLc [3, 4, 5] (gTu (gsCons (gNm 3) (gsCons (gNm 4) (gsCons (gNm 5) gsNil)))) (iSq (eVar 0)) (BD.tCmp ltD (eVar 3) (eVar 2)) (eBin mulD (eVar 5) (eCallP 3 none g_free_many (eCons (eVar 3) (eCons (eApp min2D (eCons (eVar 4) (eCons (eVar 2) eNil))) (eCons (eVar 1) eNil)))))) eNil)))
  sNil)
theorem ok_ways_ahead {g_free_many : List PyData → FR} (nm : Nm mg) (A : At K mg "ways_ahead" st_ways_ahead ["parts", "found", "seat"]) (D_free_many : DP P w K mg base 1 "free_many" st_free_many ["begin", "end", "taken"] 3 false g_free_many) : DP P w K mg base 2 "ways_ahead" st_ways_ahead ["parts", "found", "seat"] 3 false (runP 6 (sv_ways_ahead g_free_many)) :=
  DP.make A sc_ways_ahead (.inl rfl) fun f cd A outer s H E hr => (
    have hu := room_u hr.rm; have hgd := hr.gd;
    (pss_Dcons (psd_ret (M1 := []) (pd_blt (cr_sum rfl) opN_sum nm.sum_ (by rfl) (pad_cons (pd_fresh (pfd_lc [("begin", 3), ("end", 4), ("each", 5)] rfl sc_ways_ahead.nd (pid_seq (pd_var 0)) (by rfl) (fun _ _ _ _ _ => (pgd_tup rfl (pgsd_cons (pgd_name 3 sc_ways_ahead.nd) (pgsd_cons (pgd_name 4 sc_ways_ahead.nd) (pgsd_cons (pgd_name 5 sc_ways_ahead.nd) pgsd_nil))) (gsCons_len (gsCons_len (gsCons_len gsNil_len))))) (fun _ _ _ _ _ => (ptsd_one (ptd_cmp (op_ltD hu) cm_lt (pd_var 3) (pd_var 2)))) (fun _ _ _ _ _ => (pd_bin op_mulD op2_mulD (pd_var 5) (cP_ D_free_many hr (by omega) takes0 (pad_cons (pd_var 3) (pad_cons (pd_blt (call_min2 rfl) opN_min2 nm.min_ (by rfl) (pad_cons (pd_var 4) (pad_cons (pd_var 2) pad_nil))) (pad_cons (pd_var 1) pad_nil)))))))) pad_nil)))
    pss_Dnil))
abbrev st_stretches : Stmt := top 39
theorem sc_stretches : FnScope ["low", "high", "cuts", "edges", "cut"] ["low", "high", "cuts"] (defScope st_stretches) := ⟨rfl, rfl, rfl, by decide +kernel, rfl, by decide +kernel, by decide +kernel⟩
noncomputable def sv_stretches : Sv :=
  (sSeq (sIf (BD.tCmp geD (eVar 0) (eVar 1))
  (sSeq (sRet (eApp fLst eNil))
  sNil)
  sNil)
  (sSeq (sAsg 3 (eAppF ssF (eCons (eBin addD (eApp fLst (eCons (eVar 0) (eCons (eVar 1) eNil))) (eLc [4] (gNm 4) (iSq (eVar 2)) (tTru (eChain ltD ltD (eVar 0) (eVar 4) (eVar 1))) (eVar 4))) eNil)))
  (sSeq (sRet (eAppF zlF (eCons (eVar 3) (eCons (eSl (eVar 3) (ePart (eC (.int 1))) eNoPart) eNil))))
  sNil)))
theorem ok_stretches (nm : Nm mg) (A : At K mg "stretches" st_stretches ["low", "high", "cuts"])  : DP P w K mg base 1 "stretches" st_stretches ["low", "high", "cuts"] 3 false (runP 5 (sv_stretches)) :=
  DP.make A sc_stretches (.inl rfl) fun f cd A outer s H E hr => (
    have hu := room_u hr.rm; have hgd := hr.gd;
    (pss_Dcons (psd_if (ptd_cmp (op_geD hu) cm_ge (pd_var 0) (pd_var 1))
    (pss_Dcons (psd_ret (M1 := []) (pd_lst pad_nil))
    pss_Dnil)
    pss_Dnil)
    (pss_Dcons (psd_asg 3 sc_stretches.nd (pd_fresh (pfd_sset rfl nm.sorted_ nm.set_ (pad_cons (pd_bin op_addD op2_addD (pd_lst (pad_cons (pd_var 0) (pad_cons (pd_var 1) pad_nil))) (pd_fresh (pfd_lc [("cut", 4)] rfl sc_stretches.nd (pid_seq (pd_var 2)) (by rfl) (fun _ _ _ _ _ => (pgd_name 4 sc_stretches.nd)) (fun _ _ _ _ _ => (ptsd_one (ptd_chain (op_ltD hu) cm_lt (op_ltD hu) cm_lt (pd_var 0) (pd_var 4) (pd_var 1)))) (fun _ _ _ _ _ => (pd_var 4))))) pad_nil))))
    (pss_Dcons (psd_ret (M1 := []) (pd_fresh (pfd_listZip rfl nm.list_ nm.zip_ (pad_cons (pd_var 3) (pad_cons (pd_slice (pd_var 3) (pod_some pd_int) pod_none) pad_nil)))))
    pss_Dnil))))
abbrev st_future_parts : Stmt := top 41
theorem sc_future_parts : FnScope ["seating", "limit", "found", "person", "later", "parts", "begin", "end"] ["seating", "limit", "found"] (defScope st_future_parts) := ⟨rfl, rfl, rfl, by decide +kernel, rfl, by decide +kernel, by decide +kernel⟩
noncomputable def sv_future_parts (g_stretches : List PyData → FR) (g_ways_left : List PyData → FR) : Sv :=
  (sSeq (sAsg 3 (eApp lenD (eCons (eVar 2) eNil)))
  (sSeq (sAsg 4 (eAppF listF (eCons (eSl (eVar 0) (ePart (eBin addD (eVar 3) (eC (.int 1)))) eNoPart) eNil)))
  (sSeq (sAsg 5 (eCallP 3 none g_stretches (eCons (eBin atD (eVar 0) (eVar 3)) (eCons (eVar 1) (eCons (eVar 4) eNil)))))
  (sSeq (sRet (eLc [6, 7] (gTu (gsCons (gNm 6) (gsCons (gNm 7) gsNil))) (iSq (eVar 5)) tYs (eApp fTup (eCons (eVar 6) (eCons (eVar 7) (eCons (eCallP 3 none g_ways_left (eCons (eVar 4) (eCons (eVar 1) (eCons (eBin addD (eAppF listF (eCons (eVar 2) eNil)) (eApp fLst (eCons (eVar 6) eNil))) eNil)))) eNil))))))
  sNil))))
theorem ok_future_parts {g_stretches : List PyData → FR} {g_ways_left : List PyData → FR} (nm : Nm mg) (A : At K mg "future_parts" st_future_parts ["seating", "limit", "found"]) (D_stretches : DP P w K mg base 1 "stretches" st_stretches ["low", "high", "cuts"] 3 false g_stretches) (D_ways_left : DP P w K mg base 1 "ways_left" st_ways_left ["starts", "limit", "taken"] 3 false g_ways_left) : DP P w K mg base 2 "future_parts" st_future_parts ["seating", "limit", "found"] 3 false (runP 8 (sv_future_parts g_stretches g_ways_left)) :=
  DP.make A sc_future_parts (.inl rfl) fun f cd A outer s H E hr => (
    have hu := room_u hr.rm; have hgd := hr.gd;
    (pss_Dcons (psd_asg 3 sc_future_parts.nd (pd_blt call_lenDD opN_len nm.len_ (by rfl) (pad_cons (pd_var 2) pad_nil)))
    (pss_Dcons (psd_asg 4 sc_future_parts.nd (pd_fresh (pfd_typ call_list_of opF_list nm.list_ (by rfl) (pad_cons (pd_slice (pd_var 0) (pod_some (pd_bin op_addD op2_addD (pd_var 3) pd_int)) pod_none) pad_nil))))
    (pss_Dcons (psd_asg 5 sc_future_parts.nd (cP_ D_stretches hr (by omega) (takes_of rfl rfl rfl rfl) (pad_cons (pd_ix (pd_var 0) (pd_var 3)) (pad_cons (pd_var 1) (pad_cons (pd_var 4) pad_nil)))))
    (pss_Dcons (psd_ret (M1 := []) (pd_fresh (pfd_lc [("begin", 6), ("end", 7)] rfl sc_future_parts.nd (pid_seq (pd_var 5)) (by rfl) (fun _ _ _ _ _ => (pgd_tup rfl (pgsd_cons (pgd_name 6 sc_future_parts.nd) (pgsd_cons (pgd_name 7 sc_future_parts.nd) pgsd_nil)) (gsCons_len (gsCons_len gsNil_len)))) (fun _ _ _ _ _ => ptsd_nil) (fun _ _ _ _ _ => (pd_tup (pad_cons (pd_var 6) (pad_cons (pd_var 7) (pad_cons (cP_ D_ways_left hr (by omega) takes0 (pad_cons (pd_var 4) (pad_cons (pd_var 1) (pad_cons (pd_bin op_addD op2_addD (pd_fresh (pfd_typ call_list_of opF_list nm.list_ (by rfl) (pad_cons (pd_var 2) pad_nil))) (pd_lst (pad_cons (pd_var 6) pad_nil))) pad_nil)))) pad_nil))))))))
    pss_Dnil)))))
abbrev st_future_number : Stmt := top 45
theorem sc_future_number : FnScope ["seating", "limit", "other", "seat", "found", "total"] ["seating", "limit", "other"] (defScope st_future_number) := ⟨rfl, rfl, rfl, by decide +kernel, rfl, by decide +kernel, by decide +kernel⟩
noncomputable def sv_future_number (g_look_leads : List PyData → FR) (g_ways_ahead : List PyData → FR) (g_future_parts : List PyData → FR) : Sv :=
  (sSeq (sExpr (eCallP 2 none g_look_leads (eCons (eVar 0) (eCons (eVar 2) eNil))))
  (sSeq (sIf (tTru (eApp anyD (eCons (eLc [3] (gNm 3) (iSq (eVar 2)) tYs (eCmp geD (eVar 3) (eVar 1))) eNil)))
  (sSeq (sRaise "NoFuture" "limit" (eVar 1))
  sNil)
  sNil)
  (sSeq (sPar (gsCons (gNm 4) (gsCons (gNm 5) gsNil)) (eCons (eAppF fId eNil) (eCons (eC (.int 0)) eNil)))
  (sSeq (sFor (gNm 3) (iSq (eVar 2))
  (sSeq (sAug 5 (i2 (fun _ _ => true) fun i j => i + j) (eLF (eCallP 3 none g_ways_ahead (eCons (eCallP 3 none g_future_parts (eCons (eVar 0) (eCons (eVar 1) (eCons (eVar 4) eNil)))) (eCons (eVar 4) (eCons (eVar 3) eNil))))))
  (sSeq (sExpr (eMut 4 fAppend (eCons (eVar 3) eNil)))
  sNil)))
  (sSeq (sRet (eVar 5))
  sNil)))))
theorem ok_future_number {g_look_leads : List PyData → FR} {g_ways_ahead : List PyData → FR} {g_future_parts : List PyData → FR} (nm : Nm mg) (A : At K mg "future_number" st_future_number ["seating", "limit", "other"]) (D_look_leads : DP P w K mg base 5 "look_leads" st_look_leads ["one", "other"] 2 false g_look_leads) (D_ways_ahead : DP P w K mg base 5 "ways_ahead" st_ways_ahead ["parts", "found", "seat"] 3 false g_ways_ahead) (D_future_parts : DP P w K mg base 5 "future_parts" st_future_parts ["seating", "limit", "found"] 3 false g_future_parts) (E_NoFuture : EC P w K mg base 1 "NoFuture" "limit") : DP P w K mg base 6 "future_number" st_future_number ["seating", "limit", "other"] 3 false (runP 6 (sv_future_number g_look_leads g_ways_ahead g_future_parts)) :=
  DP.make A sc_future_number (.inl rfl) fun f cd A outer s H E hr => (
    have hu := room_u hr.rm; have hgd := hr.gd;
    (pss_Dcons (psd_expr (cP_ D_look_leads hr (by omega) (takes_of rfl rfl rfl rfl) (pad_cons (pd_var 0) (pad_cons (pd_var 2) pad_nil))))
    (pss_Dcons (psd_if (ptd_val (pd_blt (cr_any rfl) opN_any nm.any_ (by rfl) (pad_cons (pd_fresh (pfd_lc [("seat", 3)] rfl sc_future_number.nd (pid_seq (pd_var 2)) (by rfl) (fun _ _ _ _ _ => (pgd_name 3 sc_future_number.nd)) (fun _ _ _ _ _ => ptsd_nil) (fun _ _ _ _ _ => (pd_cmp (op_geD hu) cm_ge (pd_var 3) (pd_var 1))))) pad_nil)))
    (pss_Dcons (psd_raise (M1 := []) E_NoFuture (hr.mono (by decide)) rfl (takes_of rfl rfl rfl rfl) (pd_var 1))
    pss_Dnil)
    pss_Dnil)
    (pss_Dcons (psd_parFP 4 5 rfl sc_future_number.nd (pfd_lst pad_nil) pd_int)
    (pss_Dcons (psd_for (passes_of rfl) rfl (pid_seq (pd_var 2)) (pgd_name 3 sc_future_number.nd)
    (pss_Dcons (psd_aug 5 sc_future_number.nd iop_add op2_i20 (pd_lf (cP_ D_ways_ahead hr (by omega) (takes_of rfl rfl rfl rfl) (pad_cons (cP_ D_future_parts hr (by omega) (takes_of rfl rfl rfl rfl) (pad_cons (pd_var 0) (pad_cons (pd_var 1) (pad_cons (pd_varM 4) pad_nil)))) (pad_cons (pd_varM 4) (pad_cons (pd_var 3) pad_nil))))))
    (pss_Dcons (psd_expr (pd_mut 4 PySem.F.slot_list_append PySem.F.type_list_append mt_append opMu_append (pad_cons (pd_var 3) pad_nil)))
    pss_Dnil)))
    (pss_frz [] (pss_Dcons (psd_ret (M1 := []) (pd_var 5))
    pss_Dnil)))))))
abbrev st_ways_before : Stmt := top 38
theorem sc_ways_before : FnScope ["ends", "taken", "found", "place", "end", "others", "seat"] ["ends", "taken"] (defScope st_ways_before) := ⟨rfl, rfl, rfl, by decide +kernel, rfl, by decide +kernel, by decide +kernel⟩
noncomputable def sv_ways_before : Sv :=
  (sSeq (sAsg 2 (eC (.int 1)))
  (sSeq (sFor (gTu (gsCons (gNm 3) (gsCons (gNm 4) gsNil))) (iEn (eAppF (sortF false) (eCons (eVar 0) eNil)))
  (sSeq (sAsg 5 (eApp lenD (eCons (eLc [6] (gNm 6) (iSq (eVar 1)) (BD.tCmp leD (eVar 6) (eVar 4)) (eVar 6)) eNil)))
  (sSeq (sAug 2 (i2 mulC fun i j => i * j) (eApp max2D (eCons (eC (.int 0)) (eCons (eBin subD (eBin subD (eBin addD (eVar 4) (eC (.int 1))) (eVar 3)) (eVar 5)) eNil))))
  sNil)))
  (sSeq (sRet (eVar 2))
  sNil)))
theorem ok_ways_before (nm : Nm mg) (A : At K mg "ways_before" st_ways_before ["ends", "taken"])  : DP P w K mg base 1 "ways_before" st_ways_before ["ends", "taken"] 2 false (runP 7 (sv_ways_before)) :=
  DP.make A sc_ways_before (.inl rfl) fun f cd A outer s H E hr => (
    have hu := room_u hr.rm; have hgd := hr.gd;
    (pss_Dcons (psd_asg 2 sc_ways_before.nd pd_int)
    (pss_Dcons (psd_for (passes_of rfl) rfl (pid_enum nm.enumerate_ (pd_fresh (pfd_blt (call_sortD hu) opF_sort nm.sorted_ (by rfl) (pad_cons (pd_var 0) pad_nil)))) (pgd_tup rfl (pgsd_cons (pgd_name 3 sc_ways_before.nd) (pgsd_cons (pgd_name 4 sc_ways_before.nd) pgsd_nil)) (gsCons_len (gsCons_len gsNil_len)))
    (pss_Dcons (psd_asg 5 sc_ways_before.nd (pd_blt call_lenDD opN_len nm.len_ (by rfl) (pad_cons (pd_fresh (pfd_lc [("seat", 6)] rfl sc_ways_before.nd (pid_seq (pd_var 1)) (by rfl) (fun _ _ _ _ _ => (pgd_name 6 sc_ways_before.nd)) (fun _ _ _ _ _ => (ptsd_one (ptd_cmp (op_leD hu) cm_le (pd_var 6) (pd_var 4)))) (fun _ _ _ _ _ => (pd_var 6)))) pad_nil)))
    (pss_Dcons (psd_aug 2 sc_ways_before.nd iop_mulJ op2_mulI (pd_blt (call_max2 rfl) opN_max2 nm.max_ (by rfl) (pad_cons pd_int (pad_cons (pd_bin op_sub op2_subD (pd_bin op_sub op2_subD (pd_bin op_addD op2_addD (pd_var 4) pd_int) (pd_var 3)) (pd_var 5)) pad_nil))))
    pss_Dnil)))
    (pss_Dcons (psd_ret (M1 := []) (pd_var 2))
    pss_Dnil))))
abbrev st_past_parts : Stmt := top 42
theorem sc_past_parts : FnScope ["seating", "found", "person", "later", "parts", "end", "begin"] ["seating", "found"] (defScope st_past_parts) := ⟨rfl, rfl, rfl, by decide +kernel, rfl, by decide +kernel, by decide +kernel⟩
noncomputable def sv_past_parts (g_stretches : List PyData → FR) (g_ways_before : List PyData → FR) : Sv :=
  (sSeq (sAsg 2 (eApp lenD (eCons (eVar 1) eNil)))
  (sSeq (sAsg 3 (eAppF listF (eCons (eSl (eVar 0) (ePart (eBin addD (eVar 2) (eC (.int 1)))) eNoPart) eNil)))
  (sSeq (sAsg 4 (eCallP 3 none g_stretches (eCons (eC (.int 0)) (eCons (eBin addD (eBin atD (eVar 0) (eVar 2)) (eC (.int 1))) (eCons (eLc [5] (gNm 5) (iSq (eVar 3)) tYs (eBin addD (eVar 5) (eC (.int 1)))) eNil)))))
  (sSeq (sRet (eLc [6, 5] (gTu (gsCons (gNm 6) (gsCons (gNm 5) gsNil))) (iSq (eVar 4)) tYs (eApp fTup (eCons (eVar 6) (eCons (eVar 5) (eCons (eCallP 2 none g_ways_before (eCons (eVar 3) (eCons (eBin addD (eAppF listF (eCons (eVar 1) eNil)) (eApp fLst (eCons (eVar 6) eNil))) eNil))) eNil))))))
  sNil))))
theorem ok_past_parts {g_stretches : List PyData → FR} {g_ways_before : List PyData → FR} (nm : Nm mg) (A : At K mg "past_parts" st_past_parts ["seating", "found"]) (D_stretches : DP P w K mg base 1 "stretches" st_stretches ["low", "high", "cuts"] 3 false g_stretches) (D_ways_before : DP P w K mg base 1 "ways_before" st_ways_before ["ends", "taken"] 2 false g_ways_before) : DP P w K mg base 2 "past_parts" st_past_parts ["seating", "found"] 2 false (runP 7 (sv_past_parts g_stretches g_ways_before)) :=
  DP.make A sc_past_parts (.inl rfl) fun f cd A outer s H E hr => (
    have hu := room_u hr.rm; have hgd := hr.gd;
    (pss_Dcons (psd_asg 2 sc_past_parts.nd (pd_blt call_lenDD opN_len nm.len_ (by rfl) (pad_cons (pd_var 1) pad_nil)))
    (pss_Dcons (psd_asg 3 sc_past_parts.nd (pd_fresh (pfd_typ call_list_of opF_list nm.list_ (by rfl) (pad_cons (pd_slice (pd_var 0) (pod_some (pd_bin op_addD op2_addD (pd_var 2) pd_int)) pod_none) pad_nil))))
    (pss_Dcons (psd_asg 4 sc_past_parts.nd (cP_ D_stretches hr (by omega) (takes_of rfl rfl rfl rfl) (pad_cons pd_int (pad_cons (pd_bin op_addD op2_addD (pd_ix (pd_var 0) (pd_var 2)) pd_int) (pad_cons (pd_fresh (pfd_lc [("end", 5)] rfl sc_past_parts.nd (pid_seq (pd_var 3)) (by rfl) (fun _ _ _ _ _ => (pgd_name 5 sc_past_parts.nd)) (fun _ _ _ _ _ => ptsd_nil) (fun _ _ _ _ _ => (pd_bin op_addD op2_addD (pd_var 5) pd_int)))) pad_nil)))))
    (pss_Dcons (psd_ret (M1 := []) (pd_fresh (pfd_lc [("begin", 6), ("end", 5)] rfl sc_past_parts.nd (pid_seq (pd_var 4)) (by rfl) (fun _ _ _ _ _ => (pgd_tup rfl (pgsd_cons (pgd_name 6 sc_past_parts.nd) (pgsd_cons (pgd_name 5 sc_past_parts.nd) pgsd_nil)) (gsCons_len (gsCons_len gsNil_len)))) (fun _ _ _ _ _ => ptsd_nil) (fun _ _ _ _ _ => (pd_tup (pad_cons (pd_var 6) (pad_cons (pd_var 5) (pad_cons (cP_ D_ways_before hr (by omega) takes0 (pad_cons (pd_var 3) (pad_cons (pd_bin op_addD op2_addD (pd_fresh (pfd_typ call_list_of opF_list nm.list_ (by rfl) (pad_cons (pd_var 1) pad_nil))) (pd_lst (pad_cons (pd_var 6) pad_nil))) pad_nil))) pad_nil))))))))
    pss_Dnil)))))
abbrev st_past_number : Stmt := top 46
theorem sc_past_number : FnScope ["seating", "other", "seat", "found", "total"] ["seating", "other"] (defScope st_past_number) := ⟨rfl, rfl, rfl, by decide +kernel, rfl, by decide +kernel, by decide +kernel⟩
noncomputable def sv_past_number (g_look_leads : List PyData → FR) (g_ways_ahead : List PyData → FR) (g_past_parts : List PyData → FR) : Sv :=
  (sSeq (sIf (BD.tCmp eqD (eApp lenD (eCons (eVar 0) eNil)) (eApp lenD (eCons (eVar 1) eNil)))
  (sSeq (sExpr (eCallP 2 none g_look_leads (eCons (eVar 1) (eCons (eVar 0) eNil))))
  sNil)
  (sSeq (sExpr (eCallP 2 none g_look_leads (eCons (eVar 0) (eCons (eVar 1) eNil))))
  sNil))
  (sSeq (sPar (gsCons (gNm 3) (gsCons (gNm 4) gsNil)) (eCons (eAppF fId eNil) (eCons (eC (.int 0)) eNil)))
  (sSeq (sFor (gNm 2) (iSq (eVar 1))
  (sSeq (sAug 4 (i2 (fun _ _ => true) fun i j => i + j) (eLF (eCallP 3 none g_ways_ahead (eCons (eCallP 2 none g_past_parts (eCons (eVar 0) (eCons (eVar 3) eNil))) (eCons (eVar 3) (eCons (eVar 2) eNil))))))
  (sSeq (sExpr (eMut 3 fAppend (eCons (eVar 2) eNil)))
  sNil)))
  (sSeq (sRet (eVar 4))
  sNil))))
theorem ok_past_number {g_look_leads : List PyData → FR} {g_ways_ahead : List PyData → FR} {g_past_parts : List PyData → FR} (nm : Nm mg) (A : At K mg "past_number" st_past_number ["seating", "other"]) (D_look_leads : DP P w K mg base 5 "look_leads" st_look_leads ["one", "other"] 2 false g_look_leads) (D_ways_ahead : DP P w K mg base 5 "ways_ahead" st_ways_ahead ["parts", "found", "seat"] 3 false g_ways_ahead) (D_past_parts : DP P w K mg base 5 "past_parts" st_past_parts ["seating", "found"] 2 false g_past_parts) : DP P w K mg base 6 "past_number" st_past_number ["seating", "other"] 2 false (runP 5 (sv_past_number g_look_leads g_ways_ahead g_past_parts)) :=
  DP.make A sc_past_number (.inl rfl) fun f cd A outer s H E hr => (
    have hu := room_u hr.rm; have hgd := hr.gd;
    (pss_Dcons (psd_if (ptd_cmp (op_eqP hu) cm_eq (pd_blt call_lenDD opN_len nm.len_ (by rfl) (pad_cons (pd_var 0) pad_nil)) (pd_blt call_lenDD opN_len nm.len_ (by rfl) (pad_cons (pd_var 1) pad_nil)))
    (pss_Dcons (psd_expr (cP_ D_look_leads hr (by omega) (takes_of rfl rfl rfl rfl) (pad_cons (pd_var 1) (pad_cons (pd_var 0) pad_nil))))
    pss_Dnil)
    (pss_Dcons (psd_expr (cP_ D_look_leads hr (by omega) (takes_of rfl rfl rfl rfl) (pad_cons (pd_var 0) (pad_cons (pd_var 1) pad_nil))))
    pss_Dnil))
    (pss_Dcons (psd_parFP 3 4 rfl sc_past_number.nd (pfd_lst pad_nil) pd_int)
    (pss_Dcons (psd_for (passes_of rfl) rfl (pid_seq (pd_var 1)) (pgd_name 2 sc_past_number.nd)
    (pss_Dcons (psd_aug 4 sc_past_number.nd iop_add op2_i20 (pd_lf (cP_ D_ways_ahead hr (by omega) (takes_of rfl rfl rfl rfl) (pad_cons (cP_ D_past_parts hr (by omega) (takes_of rfl rfl rfl rfl) (pad_cons (pd_var 0) (pad_cons (pd_varM 3) pad_nil))) (pad_cons (pd_varM 3) (pad_cons (pd_var 2) pad_nil))))))
    (pss_Dcons (psd_expr (pd_mut 3 PySem.F.slot_list_append PySem.F.type_list_append mt_append opMu_append (pad_cons (pd_var 2) pad_nil)))
    pss_Dnil)))
    (pss_frz [] (pss_Dcons (psd_ret (M1 := []) (pd_var 4))
    pss_Dnil))))))
abbrev st__law_told : Stmt := top 62
theorem sc__law_told : FnScope ["_law_door", "_law_bench", "_law_there", "_law_top", "_law_flags", "_law_kinds", "_law_found", "_law_caught", "error"] ["_law_door", "_law_bench", "_law_there", "_law_top"] (defScope st__law_told) := ⟨rfl, rfl, rfl, by decide +kernel, rfl, by decide +kernel, by decide +kernel⟩
noncomputable def sv__law_told (g_moved : List PyData → FR) (g_rings : List PyData → FR) (g_distance : List PyData → FR) (g_firsts : List PyData → FR) (g_shortest : List PyData → FR) (g_ways_many : List PyData → FR) (g_future_number : List PyData → FR) (g_past_number : List PyData → FR) : Sv :=
  (sSeq (sUnp (gTu (gsCons (gNm 6) (gsCons (gNm 7) gsNil))) (eApp fTup (eCons (eC .none) (eCons (eC .none) eNil))))
  (sSeq (sTry 8 7 [("Barred", "person"), ("First", "person"), ("NoFuture", "limit"), ("NoNumber", "number"), ("NoPerson", "person"), ("OtherPeople", "many"), ("Taken", "seat")]
  (sSeq (sIf (BD.tCmp ltD (eVar 0) (eC (.int 6)))
  (sSeq (sAsg 6 (eDoor 2 [g_moved, g_rings, g_distance, g_firsts, g_shortest, g_ways_many] (eVar 0) (eCons (eVar 1) (eCons (eVar 2) eNil))))
  sNil)
  (sSeq (sAsg 6 (eIf (BD.tCmp eqD (eVar 0) (eC (.int 6))) (eCallP 3 none g_future_number (eCons (eVar 1) (eCons (eVar 3) (eCons (eVar 2) eNil)))) (eCallP 2 none g_past_number (eCons (eVar 2) (eCons (eVar 1) eNil)))))
  sNil))
  sNil))
  (sSeq (sIf (tXNo 7)
  (sSeq (sRet (eVar 6))
  sNil)
  sNil)
  (sSeq (sAsg 4 (eApp fLst (eCons (eIsX 7 [XT.own "OtherPeople"]) (eCons (eIsX 7 [XT.own "NoFuture"]) (eCons (eIsX 7 [XT.own "Barred"]) eNil)))))
  (sSeq (sAsg 5 (eApp fLst (eCons (eIsX 7 [XT.blt "ValueError"]) (eCons (eIsX 7 [XT.blt "ValueError"]) (eCons (eIsX 7 [XT.blt "RuntimeError"]) eNil)))))
  (sSeq (sIf (tOr' (BD.tCmp neD (eMet "list" cntF (eVar 4) (eCons (eC (.bool true)) eNil)) (eC (.int 1))) (tNo (tTru (eBin atD (eVar 5) (eMet "list" idxF (eVar 4) (eCons (eC (.bool true)) eNil))))))
  (sSeq (sRet (eC (.str "other")))
  sNil)
  sNil)
  (sSeq (sIf (tTru (eIsX 7 [XT.own "First", XT.own "NoNumber", XT.own "NoPerson", XT.own "Taken"]))
  (sSeq (sRet (eC (.str "other")))
  sNil)
  sNil)
  (sSeq (sIf (tTru (eBin atD (eVar 4) (eC (.int 0))))
  (sSeq (sRet (eApp fTup (eCons (eC (.str "OtherPeople")) (eCons (eXF 7 "many") eNil))))
  sNil)
  sNil)
  (sSeq (sRet (eIf (tTru (eBin atD (eVar 4) (eC (.int 1)))) (eApp fTup (eCons (eC (.str "NoFuture")) (eCons (eXF 7 "limit") eNil))) (eApp fTup (eCons (eC (.str "Barred")) (eCons (eXF 7 "person") eNil)))))
  sNil)))))))))
theorem ok__law_told {g_moved : List PyData → FR} {g_rings : List PyData → FR} {g_distance : List PyData → FR} {g_firsts : List PyData → FR} {g_shortest : List PyData → FR} {g_ways_many : List PyData → FR} {g_future_number : List PyData → FR} {g_past_number : List PyData → FR} (nm : Nm mg) (A : At K mg "_law_told" st__law_told ["_law_door", "_law_bench", "_law_there", "_law_top"]) (D_moved : DP P w K mg base 8 "moved" st_moved ["one", "other"] 2 false g_moved) (D_rings : DP P w K mg base 8 "rings" st_rings ["one", "other"] 2 false g_rings) (D_distance : DP P w K mg base 8 "distance" st_distance ["one", "other"] 2 false g_distance) (D_firsts : DP P w K mg base 8 "firsts" st_firsts ["one", "other"] 2 false g_firsts) (D_shortest : DP P w K mg base 8 "shortest" st_shortest ["one", "other"] 2 false g_shortest) (D_ways_many : DP P w K mg base 8 "ways_many" st_ways_many ["one", "other"] 2 false g_ways_many) (D_future_number : DP P w K mg base 8 "future_number" st_future_number ["seating", "limit", "other"] 3 false g_future_number) (D_past_number : DP P w K mg base 8 "past_number" st_past_number ["seating", "other"] 2 false g_past_number) (X_Taken : XM K mg "Taken" "seat") (X_OtherPeople : XM K mg "OtherPeople" "many") (X_NoPerson : XM K mg "NoPerson" "person") (X_NoNumber : XM K mg "NoNumber" "number") (X_NoFuture : XM K mg "NoFuture" "limit") (X_First : XM K mg "First" "person") (X_Barred : XM K mg "Barred" "person") : DP P w K mg base 9 "_law_told" st__law_told ["_law_door", "_law_bench", "_law_there", "_law_top"] 4 false (runP 9 (sv__law_told g_moved g_rings g_distance g_firsts g_shortest g_ways_many g_future_number g_past_number)) :=
  DP.make A sc__law_told (.inl rfl) fun f cd A outer s H E hr => (
    have hu := room_u hr.rm; have hgd := hr.gd;
    (pss_Dcons (psd_unp (pd_tup (pad_cons pd_non (pad_cons pd_non pad_nil))) (pgd_tup rfl (pgsd_cons (pgd_name 6 sc__law_told.nd) (pgsd_cons (pgd_name 7 sc__law_told.nd) pgsd_nil)) (gsCons_len (gsCons_len gsNil_len))))
    (pss_Dcons (psd_try 8 7 (cs := [("Barred", "person"), ("First", "person"), ("NoFuture", "limit"), ("NoNumber", "number"), ("NoPerson", "person"), ("OtherPeople", "many"), ("Taken", "seat")]) sc__law_told.nd (XL.cons X_Barred (XL.cons X_First (XL.cons X_NoFuture (XL.cons X_NoNumber (XL.cons X_NoPerson (XL.cons X_OtherPeople (XL.cons X_Taken XL.nil))))))) (fun W pn xe tk =>
    (pss_Dcons (psd_if (ptd_cmp (op_ltD hu) cm_lt (pd_var 0) pd_int)
    (pss_Dcons (psd_asg 6 sc__law_told.nd (pd_door (dr_cons D_moved (by omega) (dr_cons D_rings (by omega) (dr_cons D_distance (by omega) (dr_cons D_firsts (by omega) (dr_cons D_shortest (by omega) (dr_cons D_ways_many (by omega) dr_nil)))))) hr tk (pd_var 0) (pad_cons (pd_var 1) (pad_cons (pd_var 2) pad_nil))))
    pss_Dnil)
    (pss_Dcons (psd_asg 6 sc__law_told.nd (pd_if (ptd_cmp (op_eqP hu) cm_eq (pd_var 0) pd_int) (cP_ D_future_number hr (by omega) tk (pad_cons (pd_var 1) (pad_cons (pd_var 3) (pad_cons (pd_var 2) pad_nil)))) (cP_ D_past_number hr (by omega) tk (pad_cons (pd_var 2) (pad_cons (pd_var 1) pad_nil)))))
    pss_Dnil))
    pss_Dnil)))
    (pss_Dcons (psd_if (ptd_xNo 7)
    (pss_Dcons (psd_ret (M1 := []) (pd_var 6))
    pss_Dnil)
    pss_Dnil)
    (pss_Dcons (psd_asg 4 sc__law_told.nd (pd_lst (pad_cons (pd_isX1 7 (Tg.own X_OtherPeople Tg.nil) nm.isinstance_) (pad_cons (pd_isX1 7 (Tg.own X_NoFuture Tg.nil) nm.isinstance_) (pad_cons (pd_isX1 7 (Tg.own X_Barred Tg.nil) nm.isinstance_) pad_nil)))))
    (pss_Dcons (psd_asg 5 sc__law_told.nd (pd_lst (pad_cons (pd_isX1 7 (Tg.blt nm.ValueError_ (by rfl) Tg.nil) nm.isinstance_) (pad_cons (pd_isX1 7 (Tg.blt nm.ValueError_ (by rfl) Tg.nil) nm.isinstance_) (pad_cons (pd_isX1 7 (Tg.blt nm.RuntimeError_ (by rfl) Tg.nil) nm.isinstance_) pad_nil)))))
    (pss_Dcons (psd_if (PWD.pt (pwd_or (ptd_cmp (op_neP hu) cm_ne (pd_bm PySem.F.plainAttrs_list PySem.F.slot_list_count PySem.F.type_list_count (mt_lcountD hu) opMt_count (.inl rfl) (pd_var 4) (pad_cons pd_bl pad_nil)) pd_int) (pwd_or1 (ptd_not (ptd_val (pd_ix (pd_var 5) (pd_bm PySem.F.plainAttrs_list PySem.F.slot_list_index PySem.F.type_list_index (mt_indexD (room_u1 hr.rm)) opMt_index (.inl rfl) (pd_var 4) (pad_cons pd_bl pad_nil))))))))
    (pss_Dcons (psd_ret (M1 := []) pd_str)
    pss_Dnil)
    pss_Dnil)
    (pss_Dcons (psd_if (ptd_val (pd_isXT 7 (Tg.own X_First (Tg.own X_NoNumber (Tg.own X_NoPerson (Tg.own X_Taken Tg.nil)))) nm.isinstance_))
    (pss_Dcons (psd_ret (M1 := []) pd_str)
    pss_Dnil)
    pss_Dnil)
    (pss_Dcons (psd_if (ptd_val (pd_ix (pd_var 4) pd_int))
    (pss_Dcons (psd_ret (M1 := []) (pd_tup (pad_cons pd_str (pad_cons (pd_xF 7 (f := "many")) pad_nil))))
    pss_Dnil)
    pss_Dnil)
    (pss_Dcons (psd_ret (M1 := []) (pd_if (ptd_val (pd_ix (pd_var 4) pd_int)) (pd_tup (pad_cons pd_str (pad_cons (pd_xF 7 (f := "limit")) pad_nil))) (pd_tup (pad_cons pd_str (pad_cons (pd_xF 7 (f := "person")) pad_nil)))))
    pss_Dnil))))))))))
abbrev st__law_put : Stmt := top 60
theorem sc__law_put : FnScope ["_law_bench", "_law_at", "_law_spot"] ["_law_bench", "_law_at", "_law_spot"] (defScope st__law_put) := ⟨rfl, rfl, rfl, by decide +kernel, rfl, by decide +kernel, by decide +kernel⟩
noncomputable def sv__law_put : Sv :=
  (sSeq (sRet (eBin addD (eBin addD (eSl (eVar 0) eNoPart (ePart (eVar 1))) (eApp fTup (eCons (eVar 2) eNil))) (eSl (eVar 0) (ePart (eBin addD (eVar 1) (eC (.int 1)))) eNoPart)))
  sNil)
theorem ok__law_put (nm : Nm mg) (A : At K mg "_law_put" st__law_put ["_law_bench", "_law_at", "_law_spot"])  : DP P w K mg base 1 "_law_put" st__law_put ["_law_bench", "_law_at", "_law_spot"] 3 false (runP 3 (sv__law_put)) :=
  DP.make A sc__law_put (.inl rfl) fun f cd A outer s H E hr => (
    have hu := room_u hr.rm; have hgd := hr.gd;
    (pss_Dcons (psd_ret (M1 := []) (pd_bin op_addD op2_addD (pd_bin op_addD op2_addD (pd_slice (pd_var 0) pod_none (pod_some (pd_var 1))) (pd_tup (pad_cons (pd_var 2) pad_nil))) (pd_slice (pd_var 0) (pod_some (pd_bin op_addD op2_addD (pd_var 1) pd_int)) pod_none)))
    pss_Dnil))
abbrev st__law_same : Stmt := top 58
theorem sc__law_same : FnScope ["_law_found", "_law_due", "_law_mine", "_law_its"] ["_law_found", "_law_due"] (defScope st__law_same) := ⟨rfl, rfl, rfl, by decide +kernel, rfl, by decide +kernel, by decide +kernel⟩
noncomputable def sv__law_same (g__law_same : List PyData → FR) : Sv :=
  (sSeq (sIf (tTru (eIsi (fun d => isLi d || isTu d) (eVar 1)))
  (sSeq (sIf (tOr' (BD.tCmp neD (eIsi isLi (eVar 0)) (eIsi isLi (eVar 1))) (BD.tCmp neD (eIsi isTu (eVar 0)) (eIsi isTu (eVar 1))))
  (sSeq (sRet (eC (.bool false)))
  sNil)
  sNil)
  (sSeq (sRet (eAnd (eCmp eqD (eApp lenD (eCons (eVar 0) eNil)) (eApp lenD (eCons (eVar 1) eNil))) (eApp allD (eCons (eLc [2, 3] (gTu (gsCons (gNm 2) (gsCons (gNm 3) gsNil))) (iZp (eVar 0) (eVar 1)) tYs (eCallP 2 none g__law_same (eCons (eVar 2) (eCons (eVar 3) eNil)))) eNil))))
  sNil))
  sNil)
  (sSeq (sIf (tOr' (BD.tCmp isD (eVar 1) (eC .none)) (tTru (eIsi (fun d => isSt d || isBo d) (eVar 1))))
  (sSeq (sRet (eAnd (eCmp eqD (eVar 0) (eVar 1)) (eAnd (eCmp eqD (eIsi isBo (eVar 0)) (eIsi isBo (eVar 1))) (eCmp eqD (eCmp isD (eVar 0) (eC .none)) (eCmp isD (eVar 1) (eC .none))))))
  sNil)
  sNil)
  (sSeq (sRet (eAnd (eIsi isIn (eVar 0)) (eAnd (eNot (eIsi isBo (eVar 0))) (eCmp eqD (eVar 0) (eVar 1)))))
  sNil)))
noncomputable def f__law_same : Nat → List PyData → FR
  | 0 => fun _ => .bad
  | n + 1 => runP 4 (sv__law_same (f__law_same n))
theorem okS__law_same {k : Nat} {g__law_same : List PyData → FR} (nm : Nm mg) (A : At K mg "_law_same" st__law_same ["_law_found", "_law_due"]) (D__law_same : DP P w K mg base k "_law_same" st__law_same ["_law_found", "_law_due"] 2 false g__law_same) : DP P w K mg base (k + 1) "_law_same" st__law_same ["_law_found", "_law_due"] 2 false (runP 4 (sv__law_same g__law_same)) :=
  DP.make A sc__law_same (.inl rfl) fun f cd A outer s H E hr => (
    have hu := room_u hr.rm; have hgd := hr.gd;
    (pss_Dcons (psd_if (ptd_val (pd_isi2 kit_list kit_tuple (pd_var 1) nm.isinstance_ nm.list_ (by rfl) nm.tuple_ (by rfl)))
    (pss_Dcons (psd_if (PWD.pt (pwd_or (ptd_cmp (op_neP hu) cm_ne (pd_isi kit_list (pd_var 0) nm.isinstance_ nm.list_ (by rfl)) (pd_isi kit_list (pd_var 1) nm.isinstance_ nm.list_ (by rfl))) (pwd_or1 (ptd_cmp (op_neP hu) cm_ne (pd_isi kit_tuple (pd_var 0) nm.isinstance_ nm.tuple_ (by rfl)) (pd_isi kit_tuple (pd_var 1) nm.isinstance_ nm.tuple_ (by rfl))))))
    (pss_Dcons (psd_ret (M1 := []) pd_bl)
    pss_Dnil)
    pss_Dnil)
    (pss_Dcons (psd_ret (M1 := []) (pd_and (pd_cmp (op_eqP hu) cm_eq (pd_blt call_lenDD opN_len nm.len_ (by rfl) (pad_cons (pd_var 0) pad_nil)) (pd_blt call_lenDD opN_len nm.len_ (by rfl) (pad_cons (pd_var 1) pad_nil))) (pd_one (pd_blt (cr_all rfl) opN_all nm.all_ (by rfl) (pad_cons (pd_fresh (pfd_lc [("_law_mine", 2), ("_law_its", 3)] rfl sc__law_same.nd (pid_zip nm.zip_ (pd_var 0) (pd_var 1)) (by rfl) (fun _ _ _ _ _ => (pgd_tup rfl (pgsd_cons (pgd_name 2 sc__law_same.nd) (pgsd_cons (pgd_name 3 sc__law_same.nd) pgsd_nil)) (gsCons_len (gsCons_len gsNil_len)))) (fun _ _ _ _ _ => ptsd_nil) (fun _ _ _ _ _ => (cP_ D__law_same hr (by omega) takes0 (pad_cons (pd_var 2) (pad_cons (pd_var 3) pad_nil)))))) pad_nil)))))
    pss_Dnil))
    pss_Dnil)
    (pss_Dcons (psd_if (PWD.pt (pwd_or (ptd_cmp op_isD cm_is (pd_var 1) pd_non) (pwd_or1 (ptd_val (pd_isi2 kit_str kit_bool (pd_var 1) nm.isinstance_ nm.str_ (by rfl) nm.bool_ (by rfl))))))
    (pss_Dcons (psd_ret (M1 := []) (pd_and (pd_cmp (op_eqP hu) cm_eq (pd_var 0) (pd_var 1)) (pd_and (pd_cmp (op_eqP hu) cm_eq (pd_isi kit_bool (pd_var 0) nm.isinstance_ nm.bool_ (by rfl)) (pd_isi kit_bool (pd_var 1) nm.isinstance_ nm.bool_ (by rfl))) (pd_one (pd_cmp (op_eqP hu) cm_eq (pd_cmp op_isD cm_is (pd_var 0) pd_non) (pd_cmp op_isD cm_is (pd_var 1) pd_non))))))
    pss_Dnil)
    pss_Dnil)
    (pss_Dcons (psd_ret (M1 := []) (pd_and (pd_isi kit_int (pd_var 0) nm.isinstance_ nm.int_ (by rfl)) (pd_and (pd_not (pd_isi kit_bool (pd_var 0) nm.isinstance_ nm.bool_ (by rfl))) (pd_one (pd_cmp (op_eqP hu) cm_eq (pd_var 0) (pd_var 1))))))
    pss_Dnil))))
theorem ok__law_same (nm : Nm mg) (A : At K mg "_law_same" st__law_same ["_law_found", "_law_due"])  : ∀ n : Nat, DP P w K mg base (0 + n) "_law_same" st__law_same ["_law_found", "_law_due"] 2 false (f__law_same n)
  | 0 => DP.none A
  | n + 1 => okS__law_same nm A (ok__law_same nm A n)
abbrev st__law_right : Stmt := top 63
theorem sc__law_right : FnScope ["_law_box_here", "_law_bench", "_law_some", "_law_turn", "_law_there", "_law_top", "_law_lower", "_law_told_here", "_law_at", "_law_due", "_law_door", "_law_spot"] ["_law_box_here"] (defScope st__law_right) := ⟨rfl, rfl, rfl, by decide +kernel, rfl, by decide +kernel, by decide +kernel⟩
noncomputable def sv__law_right (g__law_random_bench : List PyData → List PyData → FR) (g__law_of : List PyData → List PyData → FR) (g__law_strewn : List PyData → List PyData → FR) (g__law_rise : List PyData → List PyData → FR) (g__law_take : List PyData → List PyData → FR) (g__law_put : List PyData → FR) (g__law_told : List PyData → FR) (g__law_same : List PyData → FR) : Sv :=
  (sSeq (sAsg 1 (eCallB 0 3 g__law_random_bench (eCons (eC (.int 10)) (eCons (eCallB 0 2 g__law_of (eCons (eApp fLst (eCons (eC (.int 4)) (eCons (eC (.int 12)) (eCons (eBin powD (eC (.int 10)) (eC (.int 38))) eNil)))) eNil)) eNil))))
  (sSeq (sAsg 2 (eAppF fId (eCons (eBin addD (eVar 1) (eApp fTup (eCons (eBin addD (eApp (bestD mxI) (eCons (eBin addD (eVar 1) (eApp fTup (eCons (eC (.int 0)) eNil))) eNil)) (eC (.int 1))) eNil))) (eCons (eSl (eVar 1) (ePart (eC (.int 1))) eNoPart) (eCons (eCallB 0 3 g__law_random_bench (eCons (eC (.int 4)) (eCons (eC (.int 6)) eNil))) (eCons (eApp fTup eNil) eNil))))))
  (sSeq (sExpr (eMut 2 fAppend (eCons (eApp tupD (eCons (eCallB 0 2 g__law_strewn (eCons (eVar 1) eNil)) eNil)) eNil)))
  (sSeq (sFor (gNm 3) (iR1 (eBin mulD (eC (.int 2)) (eApp intD (eCons (eCmp neD (eVar 1) (eApp fTup eNil)) eNil))))
  (sSeq (sUnp (gTu (gsCons (gNm 4) (gsCons (gNm 8) gsNil))) (eApp fTup (eCons (eCallB 0 3 g__law_rise (eCons (eVar 1) (eCons (eC (.int 6)) eNil))) (eCons (eCallB 0 2 g__law_take (eCons (eApp lenD (eCons (eVar 1) eNil)) eNil)) eNil))))
  (sSeq (sAsg 6 (eBin subD (eBin subD (eBin atD (eVar 1) (eVar 8)) (eC (.int 1))) (eCallB 0 2 g__law_take (eCons (eC (.int 3)) eNil))))
  (sSeq (sIf (tAn (BD.tCmp geD (eVar 6) (eC (.int 0))) (BD.tCmp niD (eVar 6) (eVar 4)))
  (sSeq (sExpr (eMut 2 fAppend (eCons (eCallP 3 none g__law_put (eCons (eVar 4) (eCons (eVar 8) (eCons (eVar 6) eNil)))) eNil)))
  sNil)
  sNil)
  sNil))))
  (sSeq (sFor (gNm 4) (iSq (eVar 2))
  (sSeq (sAsg 6 (eLc [8, 11] (gTu (gsCons (gNm 8) (gsCons (gNm 11) gsNil))) (iEn (eVar 4)) (tAn (BD.tCmp eqD (eApp lenD (eCons (eVar 4) eNil)) (eApp lenD (eCons (eVar 1) eNil))) (BD.tCmp ltD (eVar 11) (eBin atD (eVar 1) (eVar 8)))) (eVar 8)))
  (sSeq (sUnp (gTu (gsCons (gNm 5) (gsCons (gNm 9) gsNil))) (eApp fTup (eCons (eCallB 0 2 g__law_take (eCons (eBin addD (eApp (bestD mxI) (eCons (eBin addD (eBin addD (eVar 4) (eVar 1)) (eApp fTup (eCons (eC (.int 0)) eNil))) eNil)) (eC (.int 3))) eNil)) (eCons (eC .none) eNil))))
  (sSeq (sIf (BD.tCmp neD (eApp lenD (eCons (eVar 4) eNil)) (eApp lenD (eCons (eVar 1) eNil)))
  (sSeq (sAsg 9 (eBin addD (eBin mulD (eApp fLst (eCons (eApp fTup (eCons (eC (.str "OtherPeople")) (eCons (eApp lenD (eCons (eVar 4) eNil)) eNil))) eNil)) (eC (.int 7))) (eApp fLst (eCons (eApp fTup (eCons (eC (.str "OtherPeople")) (eCons (eApp lenD (eCons (eVar 1) eNil)) eNil))) eNil))))
  sNil)
  (sSeq (sIf (BD.tCmp neD (eVar 6) (eApp fLst eNil))
  (sSeq (sAsg 9 (eBin mulD (eApp fLst (eCons (eApp fTup (eCons (eC (.str "Barred")) (eCons (eBin atD (eVar 6) (eC (.int 0))) eNil))) eNil)) (eC (.int 8))))
  sNil)
  sNil)
  sNil))
  (sSeq (sAsg 7 (eLc [10] (gNm 10) (iR1 (eBin mulD (eC (.int 8)) (eApp intD (eCons (eCmp ntD (eVar 9) (eC .none)) eNil)))) tYs (eCallP 4 none g__law_told (eCons (eVar 10) (eCons (eVar 1) (eCons (eVar 4) (eCons (eVar 5) eNil)))))))
  (sSeq (sIf (tAn (BD.tCmp ntD (eVar 9) (eC .none)) (tNo (tTru (eCallP 2 none g__law_same (eCons (eVar 7) (eCons (eVar 9) eNil))))))
  (sSeq (sRet (eC (.bool false)))
  sNil)
  sNil)
  sNil))))))
  (sSeq (sAsg 4 (eCallB 0 3 g__law_rise (eCons (eVar 1) (eCons (eC (.int 6)) eNil))))
  (sSeq (sFor (gNm 5) (iSq (eApp fTup (eCons (eC (.int 0)) (eCons (eApp (bestD mxI) (eCons (eBin addD (eVar 4) (eApp fTup (eCons (eC (.int 0)) eNil))) eNil)) (eCons (eApp max2D (eCons (eC (.int 0)) (eCons (eBin subD (eApp (bestD mxI) (eCons (eBin addD (eVar 4) (eApp fTup (eCons (eC (.int 0)) eNil))) eNil)) (eC (.int 2))) eNil))) eNil)))))
  (sSeq (sIf (tAn (BD.tCmp neD (eVar 4) (eApp fTup eNil)) (tNo (tTru (eCallP 2 none g__law_same (eCons (eCallP 4 none g__law_told (eCons (eC (.int 6)) (eCons (eVar 1) (eCons (eVar 4) (eCons (eVar 5) eNil))))) (eCons (eApp fTup (eCons (eC (.str "NoFuture")) (eCons (eVar 5) eNil))) eNil))))))
  (sSeq (sRet (eC (.bool false)))
  sNil)
  sNil)
  sNil))
  (sSeq (sRet (eC (.bool true)))
  sNil))))))))
theorem ok__law_right {g__law_random_bench : List PyData → List PyData → FR} {g__law_of : List PyData → List PyData → FR} {g__law_strewn : List PyData → List PyData → FR} {g__law_rise : List PyData → List PyData → FR} {g__law_take : List PyData → List PyData → FR} {g__law_put : List PyData → FR} {g__law_told : List PyData → FR} {g__law_same : List PyData → FR} (nm : Nm mg) (A : At K mg "_law_right" st__law_right ["_law_box_here"]) (D__law_random_bench : DB P w K mg base 14 "_law_random_bench" st__law_random_bench ["_law_box_here", "_law_most", "_law_top"] 3 false g__law_random_bench) (D__law_of : DB P w K mg base 14 "_law_of" st__law_of ["_law_box_here", "_law_some"] 2 false g__law_of) (D__law_strewn : DB P w K mg base 14 "_law_strewn" st__law_strewn ["_law_box_here", "_law_some"] 2 false g__law_strewn) (D__law_rise : DB P w K mg base 14 "_law_rise" st__law_rise ["_law_box_here", "_law_bench", "_law_far"] 3 false g__law_rise) (D__law_take : DB P w K mg base 14 "_law_take" st__law_take ["_law_box_here", "_law_span"] 2 false g__law_take) (D__law_put : DP P w K mg base 14 "_law_put" st__law_put ["_law_bench", "_law_at", "_law_spot"] 3 false g__law_put) (D__law_told : DP P w K mg base 14 "_law_told" st__law_told ["_law_door", "_law_bench", "_law_there", "_law_top"] 4 false g__law_told) (D__law_same : DP P w K mg base 14 "_law_same" st__law_same ["_law_found", "_law_due"] 2 false g__law_same) : DB P w K mg base 15 "_law_right" st__law_right ["_law_box_here"] 1 false (runB 12 (sv__law_right g__law_random_bench g__law_of g__law_strewn g__law_rise g__law_take g__law_put g__law_told g__law_same)) :=
  DB.make A sc__law_right (.inl rfl) fun f cd A outer s H E hr => (
    have hu := room_u hr.rm; have hgd := hr.gd;
    (pss_Dcons (psd_asg 1 sc__law_right.nd (cB_ 0 D__law_random_bench hr (by omega) (takes_of rfl rfl rfl rfl) (pad_cons pd_int (pad_cons (cB_ 0 D__law_of hr (by omega) (takes_of rfl rfl rfl rfl) (pad_cons (pd_lst (pad_cons pd_int (pad_cons pd_int (pad_cons (pd_bin op_pow op2_powI pd_int pd_int) pad_nil)))) pad_nil)) pad_nil))))
    (pss_Dcons (psd_asgF 2 sc__law_right.nd (pfd_lst (pad_cons (pd_bin op_addD op2_addD (pd_var 1) (pd_tup (pad_cons (pd_bin op_addD op2_addD (pd_blt (cr_maxB rfl hu) opN_best nm.max_ (by rfl) (pad_cons (pd_bin op_addD op2_addD (pd_var 1) (pd_tup (pad_cons pd_int pad_nil))) pad_nil)) pd_int) pad_nil))) (pad_cons (pd_slice (pd_var 1) (pod_some pd_int) pod_none) (pad_cons (cB_ 0 D__law_random_bench hr (by omega) (takes_of rfl rfl rfl rfl) (pad_cons pd_int (pad_cons pd_int pad_nil))) (pad_cons (pd_tup pad_nil) pad_nil))))))
    (pss_Dcons (psd_expr (pd_mut 2 PySem.F.slot_list_append PySem.F.type_list_append mt_append opMu_append (pad_cons (pd_typ call_tuple_of opN_tuple nm.tuple_ (by rfl) (pad_cons (cB_ 0 D__law_strewn hr (by omega) (takes_of rfl rfl rfl rfl) (pad_cons (pd_var 1) pad_nil)) pad_nil)) pad_nil)))
    (pss_Dcons (psd_for (passes_of rfl) rfl (pid_r1 nm.range_ (pd_bin op_mulD op2_mulD pd_int (pd_typ call_int1 opN_int nm.int_ (by rfl) (pad_cons (pd_cmp (op_neP hu) cm_ne (pd_var 1) (pd_tup pad_nil)) pad_nil)))) (pgd_name 3 sc__law_right.nd)
    (pss_Dcons (psd_unp (pd_tup (pad_cons (cB_ 0 D__law_rise hr (by omega) (takes_of rfl rfl rfl rfl) (pad_cons (pd_var 1) (pad_cons pd_int pad_nil))) (pad_cons (cB_ 0 D__law_take hr (by omega) (takes_of rfl rfl rfl rfl) (pad_cons (pd_blt call_lenDD opN_len nm.len_ (by rfl) (pad_cons (pd_var 1) pad_nil)) pad_nil)) pad_nil))) (pgd_tup rfl (pgsd_cons (pgd_name 4 sc__law_right.nd) (pgsd_cons (pgd_name 8 sc__law_right.nd) pgsd_nil)) (gsCons_len (gsCons_len gsNil_len))))
    (pss_Dcons (psd_asg 6 sc__law_right.nd (pd_bin op_sub op2_subD (pd_bin op_sub op2_subD (pd_ix (pd_var 1) (pd_var 8)) pd_int) (cB_ 0 D__law_take hr (by omega) (takes_of rfl rfl rfl rfl) (pad_cons pd_int pad_nil))))
    (pss_Dcons (psd_if (PWD.pt (pwd_and (ptd_cmp (op_geD hu) cm_ge (pd_var 6) pd_int) (pwd_and1 (ptd_cmp (op_niDD hu) cm_ni (pd_var 6) (pd_var 4)))))
    (pss_Dcons (psd_expr (pd_mut 2 PySem.F.slot_list_append PySem.F.type_list_append mt_append opMu_append (pad_cons (cP_ D__law_put hr (by omega) (takes_of rfl rfl rfl rfl) (pad_cons (pd_var 4) (pad_cons (pd_var 8) (pad_cons (pd_var 6) pad_nil)))) pad_nil)))
    pss_Dnil)
    pss_Dnil)
    pss_Dnil))))
    (pss_frz [0] (pss_Dcons (psd_for (passes_of rfl) rfl (pid_seq (pd_var 2)) (pgd_name 4 sc__law_right.nd)
    (pss_Dcons (psd_asgLc 6 [("_law_at", 8), ("_law_spot", 11)] rfl sc__law_right.nd (pid_enum nm.enumerate_ (pd_var 4)) (by rfl) (fun _ _ _ _ _ => (pgd_tup rfl (pgsd_cons (pgd_name 8 sc__law_right.nd) (pgsd_cons (pgd_name 11 sc__law_right.nd) pgsd_nil)) (gsCons_len (gsCons_len gsNil_len)))) (fun _ _ _ _ _ => (ptsd_one (PWD.pt (pwd_and (ptd_cmp (op_eqP hu) cm_eq (pd_blt call_lenDD opN_len nm.len_ (by rfl) (pad_cons (pd_var 4) pad_nil)) (pd_blt call_lenDD opN_len nm.len_ (by rfl) (pad_cons (pd_var 1) pad_nil))) (pwd_and1 (ptd_cmp (op_ltD hu) cm_lt (pd_var 11) (pd_ix (pd_var 1) (pd_var 8)))))))) (fun _ _ _ _ _ => (pd_var 8)))
    (pss_frz [0] (pss_Dcons (psd_unp (pd_tup (pad_cons (cB_ 0 D__law_take hr (by omega) (takes_of rfl rfl rfl rfl) (pad_cons (pd_bin op_addD op2_addD (pd_blt (cr_maxB rfl hu) opN_best nm.max_ (by rfl) (pad_cons (pd_bin op_addD op2_addD (pd_bin op_addD op2_addD (pd_var 4) (pd_var 1)) (pd_tup (pad_cons pd_int pad_nil))) pad_nil)) pd_int) pad_nil)) (pad_cons pd_non pad_nil))) (pgd_tup rfl (pgsd_cons (pgd_name 5 sc__law_right.nd) (pgsd_cons (pgd_name 9 sc__law_right.nd) pgsd_nil)) (gsCons_len (gsCons_len gsNil_len))))
    (pss_Dcons (psd_if (ptd_cmp (op_neP hu) cm_ne (pd_blt call_lenDD opN_len nm.len_ (by rfl) (pad_cons (pd_var 4) pad_nil)) (pd_blt call_lenDD opN_len nm.len_ (by rfl) (pad_cons (pd_var 1) pad_nil)))
    (pss_Dcons (psd_asg 9 sc__law_right.nd (pd_bin op_addD op2_addD (pd_bin op_mulD op2_mulD (pd_lst (pad_cons (pd_tup (pad_cons pd_str (pad_cons (pd_blt call_lenDD opN_len nm.len_ (by rfl) (pad_cons (pd_var 4) pad_nil)) pad_nil))) pad_nil)) pd_int) (pd_lst (pad_cons (pd_tup (pad_cons pd_str (pad_cons (pd_blt call_lenDD opN_len nm.len_ (by rfl) (pad_cons (pd_var 1) pad_nil)) pad_nil))) pad_nil))))
    pss_Dnil)
    (pss_Dcons (psd_if (ptd_cmp (op_neP hu) cm_ne (pd_var 6) (pd_lst pad_nil))
    (pss_Dcons (psd_asg 9 sc__law_right.nd (pd_bin op_mulD op2_mulD (pd_lst (pad_cons (pd_tup (pad_cons pd_str (pad_cons (pd_ix (pd_var 6) pd_int) pad_nil))) pad_nil)) pd_int))
    pss_Dnil)
    pss_Dnil)
    pss_Dnil))
    (pss_Dcons (psd_asgLc 7 [("_law_door", 10)] rfl sc__law_right.nd (pid_r1 nm.range_ (pd_bin op_mulD op2_mulD pd_int (pd_typ call_int1 opN_int nm.int_ (by rfl) (pad_cons (pd_cmp op_ntD cm_nt (pd_var 9) pd_non) pad_nil)))) (by rfl) (fun _ _ _ _ _ => (pgd_name 10 sc__law_right.nd)) (fun _ _ _ _ _ => ptsd_nil) (fun _ _ _ _ _ => (cP_ D__law_told hr (by omega) takes0 (pad_cons (pd_var 10) (pad_cons (pd_var 1) (pad_cons (pd_var 4) (pad_cons (pd_var 5) pad_nil)))))))
    (pss_frz [0] (pss_Dcons (psd_if (PWD.pt (pwd_and (ptd_cmp op_ntD cm_nt (pd_var 9) pd_non) (pwd_and1 (ptd_not (ptd_val (cP_ D__law_same hr (by omega) (takes_of rfl rfl rfl rfl) (pad_cons (pd_var 7) (pad_cons (pd_var 9) pad_nil))))))))
    (pss_Dcons (psd_ret (M1 := [0]) pd_bl)
    pss_Dnil)
    pss_Dnil)
    pss_Dnil))))))))
    (pss_Dcons (psd_asg 4 sc__law_right.nd (cB_ 0 D__law_rise hr (by omega) (takes_of rfl rfl rfl rfl) (pad_cons (pd_var 1) (pad_cons pd_int pad_nil))))
    (pss_Dcons (psd_for (passes_of rfl) rfl (pid_seq (pd_tup (pad_cons pd_int (pad_cons (pd_blt (cr_maxB rfl hu) opN_best nm.max_ (by rfl) (pad_cons (pd_bin op_addD op2_addD (pd_var 4) (pd_tup (pad_cons pd_int pad_nil))) pad_nil)) (pad_cons (pd_blt (call_max2 rfl) opN_max2 nm.max_ (by rfl) (pad_cons pd_int (pad_cons (pd_bin op_sub op2_subD (pd_blt (cr_maxB rfl hu) opN_best nm.max_ (by rfl) (pad_cons (pd_bin op_addD op2_addD (pd_var 4) (pd_tup (pad_cons pd_int pad_nil))) pad_nil)) pd_int) pad_nil))) pad_nil))))) (pgd_name 5 sc__law_right.nd)
    (pss_Dcons (psd_if (PWD.pt (pwd_and (ptd_cmp (op_neP hu) cm_ne (pd_var 4) (pd_tup pad_nil)) (pwd_and1 (ptd_not (ptd_val (cP_ D__law_same hr (by omega) (takes_of rfl rfl rfl rfl) (pad_cons (cP_ D__law_told hr (by omega) (takes_of rfl rfl rfl rfl) (pad_cons pd_int (pad_cons (pd_var 1) (pad_cons (pd_var 4) (pad_cons (pd_var 5) pad_nil))))) (pad_cons (pd_tup (pad_cons pd_str (pad_cons (pd_var 5) pad_nil))) pad_nil))))))))
    (pss_Dcons (psd_ret (M1 := [0]) pd_bl)
    pss_Dnil)
    pss_Dnil)
    pss_Dnil))
    (pss_Dcons (psd_ret (M1 := [0]) pd_bl)
    pss_Dnil))))))))))
abbrev st_law : Stmt := top 64
theorem sc_law : FnScope ["_law_script", "_law_cells_here", "_law_k", "_law_box_here", "_law_turn"] ["_law_script"] (defScope st_law) := ⟨rfl, rfl, rfl, by decide +kernel, rfl, by decide +kernel, by decide +kernel⟩
noncomputable def sv_law (g__law_cells : List PyData → FR) (g__law_box : List PyData → FR) (g__law_right : List PyData → List PyData → FR) : Sv :=
  (sSeq (sAsg 1 (eCallP 2 none g__law_cells (eCons (eVar 0) (eCons (eC (.int 3)) eNil))))
  (sSeq (sFor (gNm 2) (iR1 (eApp lenD (eCons (eVar 1) eNil)))
  (sSeq (sAsg 3 (eCallP 2 none g__law_box (eCons (eVar 1) (eCons (eVar 2) eNil))))
  (sSeq (sIf (tNo (tTru (eApp allD (eCons (eLc [4] (gNm 4) (iR1 (eC (.int 3))) tYs (eCallB 3 1 g__law_right eNil)) eNil))))
  (sSeq (sRet (eC (.bool false)))
  sNil)
  sNil)
  sNil)))
  (sSeq (sRet (eC (.bool true)))
  sNil)))
theorem ok_law {g__law_cells : List PyData → FR} {g__law_box : List PyData → FR} {g__law_right : List PyData → List PyData → FR} (nm : Nm mg) (A : At K mg "law" st_law ["_law_script"]) (D__law_cells : DP P w K mg base 15 "_law_cells" st__law_cells ["_law_script", "_law_most"] 2 true g__law_cells) (D__law_box : DP P w K mg base 15 "_law_box" st__law_box ["_law_script", "_law_k"] 2 true g__law_box) (D__law_right : DB P w K mg base 15 "_law_right" st__law_right ["_law_box_here"] 1 false g__law_right) : DP P w K mg base 16 "law" st_law ["_law_script"] 1 false (runP 5 (sv_law g__law_cells g__law_box g__law_right)) :=
  DP.make A sc_law (.inl rfl) fun f cd A outer s H E hr => (
    have hu := room_u hr.rm; have hgd := hr.gd;
    (pss_Dcons (psd_asg 1 sc_law.nd (cP_ D__law_cells hr (by omega) (takes_of rfl rfl rfl rfl) (pad_cons (pd_var 0) (pad_cons pd_int pad_nil))))
    (pss_Dcons (psd_for (passes_of rfl) rfl (pid_r1 nm.range_ (pd_blt call_lenDD opN_len nm.len_ (by rfl) (pad_cons (pd_var 1) pad_nil))) (pgd_name 2 sc_law.nd)
    (pss_Dcons (psd_asgF 3 sc_law.nd (cPf D__law_box hr (by omega) (takes_of rfl rfl rfl rfl) (pad_cons (pd_var 1) (pad_cons (pd_var 2) pad_nil))))
    (pss_Dcons (psd_if (ptd_not (ptd_val (pd_blt (cr_all rfl) opN_all nm.all_ (by rfl) (pad_cons (pd_fresh (pfd_lc [("_law_turn", 4)] rfl sc_law.nd (pid_r1 nm.range_ pd_int) (by rfl) (fun _ _ _ _ _ => (pgd_name 4 sc_law.nd)) (fun _ _ _ _ _ => ptsd_nil) (fun _ _ _ _ _ => (cB_ 3 D__law_right hr (by omega) takes0 pad_nil)))) pad_nil))))
    (pss_frz [] (pss_Dcons (psd_ret (M1 := []) pd_bl)
    pss_Dnil))
    (pss_frz [] pss_Dnil))
    pss_Dnil)))
    (pss_Dcons (psd_ret (M1 := []) pd_bl)
    pss_Dnil))))
end
noncomputable def G__law_cells : List PyData → FR := runP 5 (sv__law_cells)
noncomputable def G__law_box : List PyData → FR := runP 3 (sv__law_box)
noncomputable def G__law_take : List PyData → List PyData → FR := f__law_take 12
noncomputable def G__law_strewn : List PyData → List PyData → FR := runB 4 (sv__law_strewn G__law_take)
noncomputable def G__law_of : List PyData → List PyData → FR := runB 2 (sv__law_of G__law_take)
noncomputable def G__law_random_bench : List PyData → List PyData → FR := runB 6 (sv__law_random_bench G__law_take G__law_of G__law_strewn)
noncomputable def G__law_rise : List PyData → List PyData → FR := runB 7 (sv__law_rise G__law_take)
noncomputable def G_look_many : List PyData → FR := runP 2 (sv_look_many)
noncomputable def G_bar : List PyData → FR := runP 6 (sv_bar G_look_many)
noncomputable def G_look_leads : List PyData → FR := runP 3 (sv_look_leads G_bar)
noncomputable def G_numbers_ahead : List PyData → FR := runP 3 (sv_numbers_ahead)
noncomputable def G_empties_moved : List PyData → FR := runP 6 (sv_empties_moved G_numbers_ahead)
noncomputable def G_movers : List PyData → FR := runP 5 (sv_movers)
noncomputable def G_moved : List PyData → FR := runP 2 (sv_moved G_look_leads G_movers G_empties_moved)
noncomputable def G_person_on : List PyData → FR := runP 5 (sv_person_on)
noncomputable def G_empties_below : List PyData → FR := runP 3 (sv_empties_below)
noncomputable def G_empty_at : List PyData → FR := runP 3 (sv_empty_at G_numbers_ahead)
noncomputable def G_gone_down : List PyData → FR := runP 8 (sv_gone_down G_empties_below G_empty_at G_numbers_ahead)
noncomputable def G_next_person : List PyData → FR := runP 4 (sv_next_person G_gone_down G_person_on)
noncomputable def G_ring_of : List PyData → FR := runP 5 (sv_ring_of G_next_person)
noncomputable def G_rings : List PyData → FR := runP 5 (sv_rings G_look_leads G_movers G_ring_of)
noncomputable def G_distance : List PyData → FR := runP 2 (sv_distance G_moved G_rings)
noncomputable def G_seat_ahead : List PyData → FR := runP 3 (sv_seat_ahead)
noncomputable def G_look_person : List PyData → FR := runP 2 (sv_look_person)
noncomputable def G_moved_to : List PyData → FR := runP 5 (sv_moved_to)
noncomputable def G_called : List PyData → FR := runP 2 (sv_called G_look_person G_moved_to G_seat_ahead)
noncomputable def G_firsts : List PyData → FR := runP 5 (sv_firsts G_distance G_movers G_seat_ahead G_called)
noncomputable def G_next_call : List PyData → FR := runP 6 (sv_next_call G_movers G_person_on G_seat_ahead)
noncomputable def G_shortest : List PyData → FR := runP 5 (sv_shortest G_distance G_next_call G_called)
noncomputable def G_ways_left : List PyData → FR := runP 8 (sv_ways_left)
noncomputable def G_futures_many : List PyData → FR := runP 2 (sv_futures_many G_ways_left)
noncomputable def G_look_few : List PyData → FR := runP 3 (sv_look_few G_futures_many)
noncomputable def G_next_layer : List PyData → FR := runP 9 (sv_next_layer)
noncomputable def G_ways_many : List PyData → FR := runP 5 (sv_ways_many G_distance G_look_few G_next_layer)
noncomputable def G_free_many : List PyData → FR := runP 4 (sv_free_many)
noncomputable def G_ways_ahead : List PyData → FR := runP 6 (sv_ways_ahead G_free_many)
noncomputable def G_stretches : List PyData → FR := runP 5 (sv_stretches)
noncomputable def G_future_parts : List PyData → FR := runP 8 (sv_future_parts G_stretches G_ways_left)
noncomputable def G_future_number : List PyData → FR := runP 6 (sv_future_number G_look_leads G_ways_ahead G_future_parts)
noncomputable def G_ways_before : List PyData → FR := runP 7 (sv_ways_before)
noncomputable def G_past_parts : List PyData → FR := runP 7 (sv_past_parts G_stretches G_ways_before)
noncomputable def G_past_number : List PyData → FR := runP 5 (sv_past_number G_look_leads G_ways_ahead G_past_parts)
noncomputable def G__law_told : List PyData → FR := runP 9 (sv__law_told G_moved G_rings G_distance G_firsts G_shortest G_ways_many G_future_number G_past_number)
noncomputable def G__law_put : List PyData → FR := runP 3 (sv__law_put)
noncomputable def G__law_same : List PyData → FR := f__law_same 12
noncomputable def G__law_right : List PyData → List PyData → FR := runB 12 (sv__law_right G__law_random_bench G__law_of G__law_strewn G__law_rise G__law_take G__law_put G__law_told G__law_same)
noncomputable def G_law : List PyData → FR := runP 5 (sv_law G__law_cells G__law_box G__law_right)
end G
namespace G
open PySem BD
theorem take_one (f : List PyData → List PyData → FR) (m n : Int) (bc : List PyData) (hb : Bx m bc) (hm : m + 1 ≤ 2 ^ 40) (h0 : 0 < n) (h1 : n ≤ 10 ^ 7 ∨ (n < 2 ^ 200 ∧ ∃ a b c, bc = [.int a, .int b, .int c] ∧ 0 < a)) :
    ∃ v bc', runB 4 (sv__law_take f) bc [.int n] = .ok (.int v) bc' ∧ 0 ≤ v ∧ v < n ∧ Bx (m + 1) bc' := by
  obtain ⟨a, b, c, rfl, ha, hb1, hb2, hc1, hc2⟩ := hb
  have hd : ∀ i, divC i n = true := fun i => vDivC h0 (by rcases h1 with h | h <;> omega)
  by_cases h : 0 < a
  · refine ⟨a % n, [.int (a / n), .int b, .int c], ?_, Int.emod_nonneg _ (by omega), Int.emod_lt_of_pos _ h0, a / n, b, c, rfl, Int.ediv_nonneg ha (by omega), hb1, hb2, hc1, by omega⟩
    simp [runB, sv__law_take, h, hd, h0]
  · have ea : a = 0 := by omega
    subst ea
    have h1 : n ≤ 10 ^ 7 := by
      rcases h1 with h1 | ⟨_, a', b', c', e, h2⟩
      · exact h1
      · cases e; omega
    have k1 : ∀ k : Int, 0 ≤ k → k ≤ 100000 → powC (b + k * (c + 1)) 5 = true := fun k hk hk2 => by
      unfold powC
      have : k * (c + 1) ≤ 100000 * (2 ^ 40) := Int.mul_le_mul hk2 (by omega) (by omega) (by omega)
      have : 0 ≤ k * (c + 1) := Int.mul_nonneg hk (by omega)
      simp only [Bool.and_eq_true, decide_eq_true_eq]
      omega
    have hn : ¬ 10000000 < n := by omega
    have e1 : ∀ i : Int, mulC (i % 2147483647) = fun _ => true := fun i => by
      funext j
      have q1 := Int.emod_nonneg i (show (2147483647 : Int) ≠ 0 by decide)
      have q2 := Int.emod_lt_of_pos i (show (0 : Int) < 2147483647 by decide)
      exact mulC_l (by omega)
    refine ⟨_, _, by simp [runB, sv__law_take, hn, hd, h0, k1, e1]; rfl, Int.emod_nonneg _ (by omega), Int.emod_lt_of_pos _ h0, 0, b, c + 1, rfl, by omega, hb1, hb2, by omega, by omega⟩
theorem take_two (f : List PyData → List PyData → FR) (m d n N : Int) (bc : List PyData) (hb : Bx m bc) (hd0 : 0 ≤ d) (h0 : 10000000 < n) (h2 : n < 2 ^ 200) (h1 : n ≤ 10000000 * N) (hN : 10000000 ≤ N) (hm : m + 1 ≤ 2 ^ 40)
    (ih : ∀ (m' n' : Int) (bc' : List PyData), Bx m' bc' → m' ≤ m + d → 0 < n' → n' ≤ N → ∃ v bc2, f bc' [.int n'] = .ok (.int v) bc2 ∧ 0 ≤ v ∧ v < n' ∧ Bx (m' + d) bc2) :
    ∃ v bc', runB 4 (sv__law_take f) bc [.int n] = .ok (.int v) bc' ∧ 0 ≤ v ∧ v < n ∧ Bx (m + (d + d + 1)) bc' := by
  obtain ⟨a, b, c, rfl, ha, hb1, hb2, hc1, hc2⟩ := id hb
  by_cases h : 0 < a
  · obtain ⟨v, bc', e, e1, e2, e3⟩ := take_one f m n _ hb hm (by omega) (.inr ⟨h2, a, b, c, rfl, h⟩)
    exact ⟨v, bc', e, e1, e2, e3.mono (by omega)⟩
  · have ea : a = 0 := by omega
    subst ea
    obtain ⟨v1, b1, e1, g1, g2, hb1'⟩ := ih m 10000000 _ hb (by omega) (by omega) hN
    have q1 : 0 < (n - 1) / 10000000 + 1 := by
      have := Int.ediv_nonneg (show 0 ≤ n - 1 by omega) (show (0 : Int) ≤ 10000000 by decide)
      omega
    have q2 : (n - 1) / 10000000 + 1 ≤ N := by
      have : (n - 1) / 10000000 < N := Int.ediv_lt_of_lt_mul (by decide) (by rw [Int.mul_comm]; omega)
      omega
    obtain ⟨v2, b2, e2, g3, g4, hb2'⟩ := ih (m + d) _ b1 hb1' (by omega) q1 q2
    have l1 := hb1'.lf
    have l2 := hb2'.lf
    have hp : (0 : Int) < n := by omega
    refine ⟨_, b2, by simp [runB, sv__law_take, h0, e1, l1, e2, l2, hp]; rfl, Int.emod_nonneg _ (by omega), Int.emod_lt_of_pos _ hp, hb2'.mono (by omega)⟩
def tB : Nat → Int
  | 0 => 10000000
  | k + 1 => 10000000 * tB k
theorem tB_ge : ∀ k, 10000000 ≤ tB k
  | 0 => Int.le_refl _
  | k + 1 => by have := tB_ge k; simp only [tB]; omega
def tD : Nat → Int
  | 0 => 1
  | k + 1 => tD k + tD k + 1
theorem tD_ge : ∀ k, 1 ≤ tD k
  | 0 => Int.le_refl _
  | k + 1 => by have := tD_ge k; simp only [tD]; omega
/-- n below 10 ^ (7 * (k + 1)): k + 1 rooms do -/
theorem take_all : ∀ (k : Nat) (m n : Int) (bc : List PyData), Bx m bc → m + tD k ≤ 2 ^ 40 → 0 < n → n ≤ tB k → n < 2 ^ 200 →
    ∃ v bc', f__law_take (k + 1) bc [.int n] = .ok (.int v) bc' ∧ 0 ≤ v ∧ v < n ∧ Bx (m + tD k) bc'
  | 0, m, n, bc, hb, hm, h0, h1, h2 => take_one _ m n bc hb hm h0 (.inl h1)
  | k + 1, m, n, bc, hb, hm, h0, h1, h2 => by
    have d1 := tD_ge k
    have hm2 : m + (tD k + tD k + 1) ≤ 2 ^ 40 := hm
    by_cases h : 10000000 < n
    · have h200 : tB k < 2 ^ 200 ∨ 2 ^ 200 ≤ tB k := by omega
      refine take_two _ m (tD k) n (min (tB k) (2 ^ 200 - 1)) bc hb (by omega) h h2 ?_ ?_ (by omega) fun m' n' bc' hb' hm' h0' h1' => ?_
      · have h1 : n ≤ 10000000 * tB k := h1
        omega
      · have := tB_ge k
        omega
      · exact take_all k m' n' bc' hb' (by omega) h0' (by omega) (by omega)
    · obtain ⟨v, bc', e, g1, g2, g3⟩ := take_one (f__law_take (k + 1)) m n bc hb (by omega) h0 (.inl (by omega))
      exact ⟨v, bc', e, g1, g2, g3.mono (by simp only [tD]; omega)⟩
/-- a draw: at most 4095 steps of the counter -/
theorem take_ok (m n : Int) (bc : List PyData) (hb : Bx m bc) (hm : m + 4095 ≤ 2 ^ 40) (h0 : 0 < n) (h1 : n < 2 ^ 200) : ∃ v bc', G__law_take bc [.int n] = .ok (.int v) bc' ∧ 0 ≤ v ∧ v < n ∧ Bx (m + 4095) bc' :=
  take_all 11 m n bc hb hm h0 (by
    have : (2 : Int) ^ 200 ≤ tB 11 := by decide
    omega) h1
/-- how many of xs are at least c -/
def above (xs : List Int) (c : Int) : Nat := (xs.filter fun x => decide (c ≤ x)).length
theorem above_le (xs : List Int) (c : Int) : above xs c ≤ xs.length := List.length_filter_le _ _
theorem above_mono (c : Int) : ∀ xs : List Int, above xs (c + 1) ≤ above xs c
  | [] => Nat.le_refl _
  | y :: r => by
    have ih := above_mono c r
    unfold above at ih ⊢
    rw [List.filter_cons, List.filter_cons]
    by_cases h1 : c + 1 ≤ y
    · have h2 : c ≤ y := by omega
      simp only [h1, h2, decide_true, if_true, List.length_cons]
      omega
    · by_cases h2 : c ≤ y
      · simp only [h1, h2, decide_true, decide_false, if_true, List.length_cons]
        simp
        omega
      · simp only [h1, h2, decide_false]
        exact ih
theorem above_lt : ∀ (xs : List Int) (c : Int), c ∈ xs → above xs (c + 1) < above xs c
  | [], c, h => by simp at h
  | x :: xs, c, h => by
    have mono := above_mono c xs
    unfold above at mono ⊢
    rw [List.filter_cons, List.filter_cons]
    rcases List.mem_cons.mp h with e | e
    · subst e
      have h1 : ¬ c + 1 ≤ c := by omega
      simp only [h1, decide_false, Int.le_refl, decide_true, if_true, List.length_cons]
      simp
      omega
    · have ih := above_lt xs c e
      unfold above at ih
      by_cases h1 : c + 1 ≤ x
      · have h2 : c ≤ x := by omega
        simp only [h1, h2, decide_true, if_true, List.length_cons]
        omega
      · by_cases h2 : c ≤ x
        · simp only [h1, h2, decide_true, decide_false, if_true, List.length_cons]
          simp
          omega
        · simp only [h1, h2, decide_false]
          exact ih
theorem in_ints (c : Int) (xs : List Int) : inD (.int c) (.list (xs.map .int)) = some (decide (c ∈ xs)) := by
  unfold inD
  have hd : PyData.depthAll (xs.map PyData.int) = 0 := PySem.W.depth_ints xs
  simp only [hd]
  rw [if_pos (by simp)]
  congr 1
  induction xs with
  | nil => rfl
  | cons x r ih =>
    have ih := ih (PySem.W.depth_ints r)
    rw [List.map_cons, List.any_cons, ih]
    have e : PyData.eqv (.int x) (.int c) = decide (x = c) := by
      simp [PyData.eqv, BEq.beq, decide_eq_decide]
    rw [e]
    by_cases h : x = c
    · subst h; simp
    · have h' : ¬ c = x := fun z => h z.symm
      simp [h, h']
/-- the next number that is not among them -/
theorem free_next (o0 o1 o2 o4 : Option PyData) (xs : List Int) (c : Int) (h0 : 0 ≤ c) : ∃ c', sWhile (BD.tCmp inD (eVar 5) (eVar 3)) (sSeq (sAsg 5 (eBin addD (eVar 5) (eC (.int 1)))) sNil) [o0, o1, o2, some (.list (xs.map .int)), o4, some (.int c)] = .nx [o0, o1, o2, some (.list (xs.map .int)), o4, some (.int c')] ∧ c ≤ c' ∧ c' ≤ c + xs.length ∧ c' ∉ xs := by
  obtain ⟨δ', e, c', rfl, h1, h2, h3⟩ := wh_ind (t := BD.tCmp inD (eVar 5) (eVar 3)) (body := sSeq (sAsg 5 (eBin addD (eVar 5) (eC (.int 1)))) sNil)
    (fun δ => ∃ c', δ = [o0, o1, o2, some (.list (xs.map .int)), o4, some (.int c')] ∧ c ≤ c' ∧ c' + above xs c' ≤ c + xs.length)
    (fun δ => ∃ c', δ = [o0, o1, o2, some (.list (xs.map .int)), o4, some (.int c')] ∧ c ≤ c' ∧ c' + above xs c' ≤ c + xs.length ∧ c' ∉ xs)
    (fun δ => match δ with | [_, _, _, _, _, some (.int c')] => above xs c' | _ => 0) (by
      rintro δ ⟨c', rfl, h1, h2⟩
      by_cases h : c' ∈ xs
      · right
        refine ⟨_, [o0, o1, o2, some (.list (xs.map .int)), o4, some (.int (c' + 1))], by simp [in_ints, h]; rfl, by simp, ⟨c' + 1, rfl, by omega, ?_⟩, above_lt xs c' h⟩
        have := above_lt xs c' h
        omega
      · left
        exact ⟨_, by simp [in_ints, h], c', rfl, h1, h2, h⟩) _ ⟨c, rfl, Int.le_refl _, by have := above_le xs c; omega⟩
  exact ⟨c', e, h1, by omega, h3⟩
def tuI (ns : List Int) : PyData := .tuple (ns.map .int)
def liI (ns : List Int) : PyData := .list (ns.map .int)
instance (ns : List Int) : NX (tuI ns) := ⟨rfl⟩
instance (ns : List Int) : NX (liI ns) := ⟨rfl⟩
@[simp] theorem tuI_len (ns : List Int) : lenD [tuI ns] = some (.int ns.length) := by simp [tuI]
@[simp] theorem liI_len (ns : List Int) : lenD [liI ns] = some (.int ns.length) := by simp [liI]
@[simp] theorem tuI_at (ns : List Int) (i : Int) : atD (tuI ns) (.int i) = L2.atI (ns.map .int) i := rfl
@[simp] theorem liI_at (ns : List Int) (i : Int) : atD (liI ns) (.int i) = L2.atI (ns.map .int) i := rfl
@[simp] theorem tuI_seq (ns : List Int) : seqD (tuI ns) = some (ns.map .int) := rfl
@[simp] theorem liI_seq (ns : List Int) : seqD (liI ns) = some (ns.map .int) := rfl
@[simp] theorem tuI_lis (ns : List Int) : listF [tuI ns] = some (ns.map .int) := rfl
@[simp] theorem tuI_tup (ns : List Int) : tupD [tuI ns] = some (tuI ns) := rfl
@[simp] theorem liI_tup (ns : List Int) : tupD [liI ns] = some (tuI ns) := rfl
/-! ### who can sit where: counting -/
def rngI (lo hi : Int) : List Int := (List.range (hi - lo).toNat).map fun (i : Nat) => lo + (i : Int)
theorem mem_rngI {lo hi x : Int} : x ∈ rngI lo hi ↔ lo ≤ x ∧ x < hi := by
  unfold rngI
  rw [List.mem_map]
  constructor
  · rintro ⟨i, hi', rfl⟩
    have := List.mem_range.mp hi'
    omega
  · rintro ⟨h1, h2⟩
    exact ⟨(x - lo).toNat, List.mem_range.mpr (by omega), by omega⟩
theorem rngI_nodup (lo hi : Int) : (rngI lo hi).Nodup := by
  unfold rngI
  rw [List.nodup_iff_pairwise_ne, List.pairwise_map]
  exact List.nodup_range.imp fun h e => h (by omega)
theorem rngI_len (lo hi : Int) : (rngI lo hi).length = (hi - lo).toNat := by simp [rngI]
/-- seats from s on below top that are not used -/
def chairs (top s : Int) (used : List Int) : List Int := (rngI s top).filter fun c => decide (c ∉ used)
theorem mem_chairs {top s c : Int} {used : List Int} : c ∈ chairs top s used ↔ (s ≤ c ∧ c < top) ∧ c ∉ used := by
  unfold chairs
  rw [List.mem_filter, mem_rngI, decide_eq_true_eq]
theorem chairs_congr {top s : Int} {u v : List Int} (h : ∀ x, x ∈ u ↔ x ∈ v) : chairs top s u = chairs top s v := by
  unfold chairs
  congr 1
  funext c
  simp [h c]
/-- all ways to go forward -/
def EX (top : Int) : List Int → List Int → List (List Int)
  | [], _ => [[]]
  | s :: r, used => (chairs top s used).flatMap fun c => (EX top r (c :: used)).map (c :: ·)
theorem EX_congr (top : Int) : ∀ (r : List Int) {u v : List Int}, (∀ x, x ∈ u ↔ x ∈ v) → EX top r u = EX top r v
  | [], _, _, _ => rfl
  | s :: r, u, v, h => by
    simp only [EX]
    rw [chairs_congr h]
    congr 1
    funext c
    rw [EX_congr top r (u := c :: u) (v := c :: v) fun x => by simp [h x]]
/-- one more person, seat by seat -/
def stepE (top : Int) (found : List (List Int)) (s : Int) : List (List Int) := found.flatMap fun p => (chairs top s p).map fun c => p ++ [c]
theorem fold_EX (top : Int) : ∀ (r : List Int) (found : List (List Int)), r.foldl (stepE top) found = found.flatMap fun p => (EX top r p).map (p ++ ·)
  | [], found => by simp [EX]
  | s :: r, found => by
    rw [List.foldl_cons, fold_EX top r]
    unfold stepE
    rw [List.flatMap_assoc]
    congr 1
    funext p
    simp only [EX, List.flatMap_map, List.map_flatMap, List.map_map]
    congr 1
    funext c
    rw [EX_congr top r (u := p ++ [c]) (v := c :: p) fun x => by simp [or_comm]]
    congr 1
    funext q
    simp
/-- those that leave x out -/
theorem EX_filter (top x : Int) : ∀ (r used : List Int), (EX top r used).filter (fun q => decide (x ∉ q)) = EX top r (x :: used)
  | [], _ => by simp [EX]
  | s :: r, used => by
    simp only [EX]
    rw [List.filter_flatMap]
    have hc : chairs top s (x :: used) = (chairs top s used).filter fun c => decide (c ≠ x) := by
      unfold chairs
      rw [List.filter_filter]
      congr 1
      funext c
      simp [not_or]
    rw [hc]
    generalize chairs top s used = L
    induction L with
    | nil => rfl
    | cons c L ih =>
      rw [List.flatMap_cons, ih, List.filter_cons]
      by_cases h : c = x
      · subst h
        have : (List.filter (fun q => decide (c ∉ q)) (List.map (fun x => c :: x) (EX top r (c :: used)))) = [] := by
          rw [List.filter_eq_nil_iff]
          intro q hq
          obtain ⟨q', _, rfl⟩ := List.mem_map.mp hq
          simp
        rw [this]
        simp
      · simp only [h, ne_eq, not_false_eq_true, decide_true, if_true, List.flatMap_cons]
        congr 1
        rw [List.filter_map, EX_congr top r (u := c :: x :: used) (v := x :: c :: used) fun y => by simp [or_left_comm], ← EX_filter top x r (c :: used)]
        congr 1
        congr 1
        funext q
        simp [Ne.symm h, fun e : x = c => h e.symm]
def NN (top : Int) (r used : List Int) : Nat := (EX top r used).length
theorem NN_nil (top : Int) (used : List Int) : NN top [] used = 1 := rfl
theorem NN_cons (top s : Int) (r used : List Int) : NN top (s :: r) used = ((chairs top s used).map fun c => NN top r (c :: used)).sum := by
  unfold NN
  simp [EX, List.length_flatMap]
theorem NN_congr (top : Int) (r : List Int) {u v : List Int} (h : ∀ x, x ∈ u ↔ x ∈ v) : NN top r u = NN top r v := by unfold NN; rw [EX_congr top r h]
theorem sum_filter {α : Type} (p : α → Bool) (f : α → Nat) : ∀ l : List α, ((l.filter p).map f).sum = (l.map fun c => if p c = true then f c else 0).sum
  | [] => rfl
  | x :: l => by
    rw [List.filter_cons]
    split
    · simp [sum_filter p f l, *]
    · simp [sum_filter p f l, *]
theorem sum_add {α : Type} (f g : α → Nat) : ∀ l : List α, (l.map fun c => f c + g c).sum = (l.map f).sum + (l.map g).sum
  | [] => rfl
  | x :: l => by simp [sum_add f g l]; omega
theorem sum_zero {α : Type} : ∀ l : List α, (l.map fun _ => 0).sum = 0
  | [] => rfl
  | x :: l => by simp [sum_zero l]
theorem sum_comm {α β : Type} (g : α → β → Nat) (m : List β) : ∀ l : List α, (l.map fun a => (m.map fun b => g a b).sum).sum = (m.map fun b => (l.map fun a => g a b).sum).sum
  | [] => by simp [sum_zero]
  | x :: l => by
    simp only [List.map_cons, List.sum_cons]
    rw [sum_comm g m l, ← sum_add]
theorem chairs_wide {top s lo : Int} (h : lo ≤ s) (used : List Int) (f : Int → Nat) : ((chairs top s used).map f).sum = ((rngI lo top).map fun c => if s ≤ c ∧ c ∉ used then f c else 0).sum := by
  have e : chairs top s used = (rngI lo top).filter fun c => decide (s ≤ c ∧ c ∉ used) := by
    unfold chairs rngI
    have : ∀ n m : Nat, ((top - lo).toNat = n + m) → (s - lo).toNat = n ∨ (m = 0 ∧ top ≤ s) → List.filter (fun c => decide (c ∉ used)) (List.map (fun (i : Nat) => s + (i : Int)) (List.range (top - s).toNat)) = List.filter (fun c => decide (s ≤ c ∧ c ∉ used)) (List.map (fun (i : Nat) => lo + (i : Int)) (List.range (n + m))) := by
      intro n m h1 h2
      rw [List.range_add, List.map_append, List.filter_append]
      have z1 : List.filter (fun c => decide (s ≤ c ∧ c ∉ used)) (List.map (fun (i : Nat) => lo + (i : Int)) (List.range n)) = [] := by
        rw [List.filter_eq_nil_iff]
        intro c hc
        obtain ⟨i, hi, rfl⟩ := List.mem_map.mp hc
        have := List.mem_range.mp hi
        rw [decide_eq_true_eq]
        omega
      rw [z1, List.nil_append, List.map_map]
      rcases h2 with h2 | ⟨rfl, h2⟩
      · have e1 : (top - s).toNat = m := by omega
        rw [e1, List.filter_map, List.filter_map]
        have e2 : ((fun (i : Nat) => lo + (i : Int)) ∘ fun x => n + x) = fun (i : Nat) => s + (i : Int) := by
          funext i
          simp
          omega
        rw [e2]
        congr 1
        congr 1
        funext i
        simp
        omega
      · have e1 : (top - s).toNat = 0 := by omega
        rw [e1]
        rfl
    by_cases hs : s ≤ top
    · have e0 : (top - lo).toNat = (s - lo).toNat + (top - s).toNat := by omega
      rw [this _ _ e0 (.inl rfl), e0]
    · rw [this (top - lo).toNat 0 (by omega) (.inr ⟨rfl, by omega⟩)]
      rfl
  rw [e, sum_filter]
  simp only [decide_eq_true_eq]
theorem NN_swap (top a b : Int) (r used : List Int) : NN top (a :: b :: r) used = NN top (b :: a :: r) used := by
  have key : ∀ a b : Int, NN top (a :: b :: r) used = ((rngI (min a b) top).map fun c => ((rngI (min a b) top).map fun d => if a ≤ c ∧ c ∉ used ∧ b ≤ d ∧ d ∉ used ∧ d ≠ c then NN top r (d :: c :: used) else 0).sum).sum := by
    intro a b
    rw [NN_cons, chairs_wide (lo := min a b) (by omega)]
    congr 1
    apply List.map_congr_left
    intro c _
    split
    · rename_i h
      rw [NN_cons, chairs_wide (lo := min a b) (by omega)]
      congr 1
      apply List.map_congr_left
      intro d _
      by_cases h2 : b ≤ d ∧ d ∉ c :: used
      · rw [if_pos h2, if_pos]
        have := h2.2
        simp at this
        exact ⟨h.1, h.2, h2.1, this.2, this.1⟩
      · rw [if_neg h2, if_neg]
        rintro ⟨h3, h4, h5, h6, h7⟩
        exact h2 ⟨h5, by simp; exact ⟨h7, h6⟩⟩
    · rename_i h
      rw [show ((rngI (min a b) top).map fun d => if a ≤ c ∧ c ∉ used ∧ b ≤ d ∧ d ∉ used ∧ d ≠ c then NN top r (d :: c :: used) else 0) = (rngI (min a b) top).map fun _ => 0 from ?_, sum_zero]
      apply List.map_congr_left
      intro d _
      rw [if_neg]
      exact fun h2 => h ⟨h2.1, h2.2.1⟩
  rw [key a b, key b a, sum_comm, show min b a = min a b by omega]
  congr 1
  apply List.map_congr_left
  intro c _
  congr 1
  apply List.map_congr_left
  intro d _
  by_cases h : a ≤ d ∧ d ∉ used ∧ b ≤ c ∧ c ∉ used ∧ c ≠ d
  · rw [if_pos h, if_pos ⟨h.2.2.1, h.2.2.2.1, h.1, h.2.1, Ne.symm h.2.2.2.2⟩]
    exact NN_congr top r fun x => by simp [or_left_comm]
  · rw [if_neg h, if_neg]
    exact fun q => h ⟨q.2.2.1, q.2.2.2.1, q.1, q.2.1, Ne.symm q.2.2.2.2⟩
theorem NN_perm (top : Int) {r r' : List Int} (h : r.Perm r') : ∀ used, NN top r used = NN top r' used := by
  induction h with
  | nil => exact fun _ => rfl
  | cons x _ ih => exact fun used => by rw [NN_cons, NN_cons]; simp only [ih]
  | swap x y l => exact fun used => NN_swap top y x l used
  | trans _ _ h1 h2 => exact fun used => (h1 used).trans (h2 used)
/-- the product that the program takes -/
def oth (top : Int) (taken : List Int) (s : Int) : Nat := (taken.filter fun t => decide (s ≤ t ∧ t < top)).length
def wl (top : Int) (taken : List Int) : Nat → List Int → Nat
  | _, [] => 1
  | k, s :: r => (top - s - (k : Int) - (oth top taken s : Int)).toNat * wl top taken (k + 1) r
theorem len_filter_ne {x : Int} : ∀ {l : List Int}, l.Nodup → x ∈ l → (l.filter fun y => decide (y ≠ x)).length + 1 = l.length
  | [], _, h => by simp at h
  | y :: l, nd, h => by
    rw [List.nodup_cons] at nd
    rw [List.filter_cons]
    by_cases e : y = x
    · subst e
      have : l.filter (fun z => decide (z ≠ y)) = l := List.filter_eq_self.mpr fun z hz => by
        simp
        rintro rfl
        exact nd.1 hz
      rw [this]
      simp
    · have h' : x ∈ l := by
        rcases List.mem_cons.mp h with q | q
        · exact absurd q.symm e
        · exact q
      have : (l.filter fun y => decide (¬ y = x)).length + 1 = l.length := len_filter_ne nd.2 h'
      simp only [e, ne_eq, not_false_eq_true, decide_true, if_true, List.length_cons]
      omega
theorem chairs_len (top s : Int) : ∀ used : List Int, used.Nodup → (chairs top s used).length + oth top used s = (top - s).toNat
  | [], _ => by
    have : chairs top s [] = rngI s top := List.filter_eq_self.mpr fun _ _ => by simp
    rw [this, rngI_len]
    rfl
  | u :: used, nd => by
    rw [List.nodup_cons] at nd
    have ih := chairs_len top s used nd.2
    have e : chairs top s (u :: used) = (chairs top s used).filter fun c => decide (c ≠ u) := by
      unfold chairs
      rw [List.filter_filter]
      congr 1
      funext c
      simp [not_or]
    have nd2 : (chairs top s used).Nodup := (rngI_nodup s top).filter _
    unfold oth at ih ⊢
    rw [List.filter_cons]
    by_cases h : s ≤ u ∧ u < top
    · have hm : u ∈ chairs top s used := mem_chairs.mpr ⟨h, nd.1⟩
      have := len_filter_ne nd2 hm
      rw [e]
      simp only [h, and_self, decide_true, if_true, List.length_cons]
      omega
    · have : (chairs top s used).filter (fun c => decide (c ≠ u)) = chairs top s used := List.filter_eq_self.mpr fun c hc => by
        simp
        rintro rfl
        exact h (mem_chairs.mp hc).1
      rw [e, this]
      simp only [h, decide_false]
      exact ih
theorem sum_const {α : Type} (f : α → Nat) (n : Nat) : ∀ l : List α, (∀ x ∈ l, f x = n) → (l.map f).sum = l.length * n
  | [], _ => by simp
  | x :: l, h => by
    rw [List.map_cons, List.sum_cons, sum_const f n l fun y hy => h y (List.mem_cons_of_mem _ hy), h x List.mem_cons_self, List.length_cons, Nat.add_mul]
    omega
theorem NN_wl (top : Int) (taken : List Int) : ∀ (r extra : List Int), r.Pairwise (· ≥ ·) → (extra ++ taken).Nodup → (∀ e ∈ extra, e < top ∧ ∀ s ∈ r, s ≤ e) → NN top r (extra ++ taken) = wl top taken extra.length r
  | [], _, _, _, _ => rfl
  | s :: r, extra, pw, nd, he => by
    rw [List.pairwise_cons] at pw
    have c := chairs_len top s (extra ++ taken) nd
    have o : oth top (extra ++ taken) s = extra.length + oth top taken s := by
      unfold oth
      rw [List.filter_append, List.length_append]
      congr 1
      rw [List.filter_eq_self.mpr]
      intro e h
      have := he e h
      have := this.2 s List.mem_cons_self
      rw [decide_eq_true_eq]
      omega
    rw [NN_cons, sum_const _ (wl top taken (extra.length + 1) r) _ fun c hc => ?_]
    · rw [wl]
      congr 1
      rw [o] at c
      omega
    · obtain ⟨h1, h2⟩ := mem_chairs.mp hc
      have := NN_wl top taken r (c :: extra) pw.2 (by rw [List.cons_append, List.nodup_cons]; exact ⟨h2, nd⟩) (fun e h => by
        rcases List.mem_cons.mp h with rfl | h
        · exact ⟨h1.2, fun s' hs' => by have := pw.1 s' hs'; omega⟩
        · exact ⟨(he e h).1, fun s' hs' => (he e h).2 s' (List.mem_cons_of_mem _ hs')⟩)
      exact this
theorem wl_pos (top : Int) : ∀ (r : List Int) (k : Nat), r.Pairwise (· > ·) → (∀ s ∈ r, s + k < top) → 0 < wl top [] k r
  | [], _, _, _ => Nat.one_pos
  | s :: r, k, pw, h => by
    rw [List.pairwise_cons] at pw
    have h0 := h s List.mem_cons_self
    rw [wl]
    refine Nat.mul_pos ?_ (wl_pos top r (k + 1) pw.2 fun t ht => ?_)
    · show 0 < (top - s - (k : Int) - (0 : Nat)).toNat
      omega
    · have := pw.1 t ht
      omega
theorem rngL_eq (lo hi : Int) : rngL lo hi = (rngI lo hi).map .int := by
  unfold rngL rngI
  rw [List.map_map]
  rfl
theorem in_tuI (c : Int) (xs : List Int) : inD (.int c) (tuI xs) = some (decide (c ∈ xs)) := by
  have := in_ints c xs
  unfold inD at this ⊢
  exact this
theorem inR_small {x : Int} (h : -1000 ≤ x) (h2 : x ≤ 2 ^ 40) : inR x = true := by
  unfold inR
  rw [Bool.and_eq_true, decide_eq_true_eq, decide_eq_true_eq]
  omega
theorem nd_snoc {u : List Int} {c : Int} (nd : u.Nodup) (h : c ∉ u) : (u ++ [c]).Nodup := List.nodup_append.mpr ⟨nd, by simp, fun a ha b hb => by
  rw [List.mem_singleton.mp hb]
  rintro rfl
  exact h ha⟩
theorem okd_nx {n : Nat} {d : PyData} (h : okd n d) : NX d := ⟨by
  cases n <;> cases d <;> first | rfl | exact h.elim⟩
theorem same_list (f : List PyData → FR) (xs : List PyData) (hl : xs.length ≤ 1000000) (nx : ∀ x ∈ xs, NX x) (ih : ∀ x ∈ xs, f [x, x] = .ok (.bool true) []) (o1 o2 : Option PyData) :
    lcL (gTu (gsCons (gNm 2) (gsCons (gNm 3) gsNil))) tYs (eCallP 2 none f (eCons (eVar 2) (eCons (eVar 3) eNil))) [2, 3] (zipL xs xs) [o1, o2, none, none] [] = .ok (xs.map fun _ => .bool true) [o1, o2, none, none] := by
  rw [zipL_self, lc_map (fun _ => .bool true) _ _ (by simp; omega)]
  · rw [List.map_map]; rfl
  · intro d hd
    obtain ⟨x, hx, rfl⟩ := List.mem_map.mp hd
    have nxx := nx x hx
    refine ⟨[o1, o2, some x, some x], [o1, o2, some x, some x], by simp, by simp [ih x hx], by simp⟩
theorem all_true (xs : List PyData) : allD [.list (xs.map fun _ => PyData.bool true)] = some (.bool true) := by
  have e : (xs.map fun _ => PyData.bool true) = (xs.map fun _ => true).map .bool := by rw [List.map_map]; rfl
  rw [e, vAll]
  congr 2
  simp
theorem same_refl : ∀ (n : Nat) (d : PyData), okd n d → n ≤ 60 → f__law_same (n + 1) [d, d] = .ok (.bool true) [] := fun n => by
  induction n with
  | zero =>
    intro d h _
    cases d with
    | list _ => exact h.elim
    | tuple _ => exact h.elim
    | dict _ => exact h.elim
    | _ => show runP 4 (sv__law_same (f__law_same 0)) _ = _; simp [runP, sv__law_same, eqD_ok h]
  | succ n ih =>
    intro d h hn
    cases d with
    | list xs =>
      have e := same_list (f__law_same (n + 1)) xs h.1 (fun x hx => okd_nx (h.2 x hx)) (fun x hx => ih x (h.2 x hx) (by omega))
      show runP 4 (sv__law_same (f__law_same (n + 1))) _ = _
      simp [runP, sv__law_same, e, all_true]
    | tuple xs =>
      have e := same_list (f__law_same (n + 1)) xs h.1 (fun x hx => okd_nx (h.2 x hx)) (fun x hx => ih x (h.2 x hx) (by omega))
      show runP 4 (sv__law_same (f__law_same (n + 1))) _ = _
      simp [runP, sv__law_same, e, all_true]
    | dict _ => exact h.elim
    | _ => show runP 4 (sv__law_same (f__law_same (n + 1))) _ = _; simp [runP, sv__law_same, eqD_ok h hn]
theorem same_ok {d : PyData} (h : okd 11 d) : G__law_same [d, d] = .ok (.bool true) [] := same_refl 11 d h (by decide)
/-! ### the laws' own helpers (k00 to k29) -/
theorem box1_ok (ns : List Int) (k : Nat) (hk : k ≤ 64) : ∃ bc, G__law_box [.list (ns.map .int), .int k] = .ok (.list bc) [] ∧ Bx 0 bc := by
  have core : ∀ z : Int, ∃ bc, (runP 3 (sSeq (sAsg 2 (eC (.int z))) (sSeq (sRet (eAppF fId (eCons (eBin mulD (eApp absD (eCons (eVar 2) eNil)) (eApp intD (eCons (eCmp geD (eApp absD (eCons (eVar 2) eNil)) (eBin powD (eC (.int 10)) (eC (.int 18)))) eNil))) (eCons (eBin addD (eBin addD (eBin modD (eVar 2) (eC (.int 2305843009213693951))) (eBin mulD (eC (.int 7919)) (eVar 1))) (eC (.int 63))) (eCons (eC (.int 0)) eNil))))) sNil)) [.list (ns.map .int), .int k]) = .ok (.list bc) [] ∧ Bx 0 bc := by
    intro z
    refine ⟨_, by simp [runP, mulC_if]; exact ⟨rfl, rfl⟩, _, _, _, rfl, ?_, ?_, ?_, Int.le_refl _, Int.le_refl _⟩
    · split <;> split <;> omega
    · have := Int.emod_nonneg z (show (2305843009213693951 : Int) ≠ 0 by decide)
      omega
    · have := Int.emod_lt_of_pos z (show (0 : Int) < 2305843009213693951 by decide)
      omega
  by_cases h : k < ns.length
  · obtain ⟨bc, e, q⟩ := core ns[k]
    refine ⟨bc, ?_, q⟩
    rw [← e]
    have h2 : (k : Int) < (ns.length : Nat) := by omega
    have h3 : L2.atI (ns.map PyData.int) (k : Int) = some (.int ns[k]) := by rw [atS]; simp [h]
    simp [G__law_box, runP, sv__law_box, h2, h3]
  · obtain ⟨bc, e, q⟩ := core 0
    refine ⟨bc, ?_, q⟩
    rw [← e]
    have h2 : ¬ (k : Int) < (ns.length : Nat) := by omega
    simp [G__law_box, runP, sv__law_box, h2]
theorem cut_map {α β : Type} (f : α → β) (xs : List α) (a b : Option Int) : cutL (xs.map f) a b = (cutL xs a b).map f := by
  unfold cutL
  rw [List.length_map, List.map_take, List.map_drop]
theorem cut_mid_nil {α : Type} (xs : List α) (a : Nat) (b : Option Int) (h : xs.length ≤ a) : cutL xs (some (a : Int)) b = [] := by
  unfold cutL
  rw [HT.sIx_nat, Nat.min_eq_right h, List.drop_of_length_le (Nat.le_refl _), List.take_nil]
noncomputable abbrev cellSv : Sv := (sSeq (sSto 2 (eBin modD (eVar 3) (eVar 1)) (eBin addD (eIxM 2 (eBin modD (eVar 3) (eVar 1))) (eBin mulD (eVar 4) (eBin addD (eVar 3) (eC (.int 2))))))
  sNil)
theorem cells_step (o0 : Option PyData) (cs : List Int) (h : cs.length = 3) (k : Nat) (hk : k ≤ 1000000) (x : Int) : ∃ cs' : List Int, cs'.length = 3 ∧ cellSv [o0, some (.int 3), some (.list (cs.map .int)), some (.int (k : Nat)), some (.int x)] = .nx [o0, some (.int 3), some (.list (cs'.map .int)), some (.int (k : Nat)), some (.int x)] := by
  have hm : mulC x ((k : Int) + 2) = true := mulC_r (by omega)
  have hk3 : k % 3 < cs.length := by rw [h]; omega
  have e1 : ((k : Int) % 3) = ((k % 3 : Nat) : Int) := by omega
  have e2 : L2.atI (cs.map PyData.int) ((k % 3 : Nat) : Int) = some (.int cs[k % 3]) := by rw [atS]; simp [hk3]
  have e3 := setS (xs := cs.map PyData.int) (i := k % 3) (.int (cs[k % 3] + x * ((k : Int) + 2))) (by simpa using hk3)
  refine ⟨cs.set (k % 3) (cs[k % 3] + x * ((k : Int) + 2)), by simp [h], ?_⟩
  rw [List.map_set]
  rw [← e1] at e2 e3
  generalize cs[k % 3] = c at *
  generalize hC : cs.map PyData.int = C at *
  generalize ((k : Nat) : Int) = kk at *
  clear e1
  generalize hj : kk % 3 = j at *
  simp [hj, e2, hm, e3]
theorem cells_ok (ns : List Int) (hl : ns.length ≤ 63) : ∃ cs : List Int, G__law_cells [.list (ns.map .int), .int 3] = .ok (.list (cs.map .int)) [] ∧ cs.length ≤ 3 := by
  have c1 : cutL (ns.map PyData.int) none (some (3 : Int)) = (ns.take 3).map .int := by
    have := cut_to (ns.map PyData.int) 3
    rw [List.map_take]
    exact this
  have c2 : cutL (ns.map PyData.int) (some (3 : Int)) (some 63) = (cutL ns (some (3 : Int)) (some 63)).map .int := cut_map _ _ _ _
  obtain ⟨δ', e, cs, o3, o4, rfl, hc⟩ : ∃ δ', forL (gTu (gsCons (gNm 3) (gsCons (gNm 4) gsNil))) cellSv (enumL 0 ((cutL ns (some (3 : Int)) (some 63)).map .int)) [some (.list (ns.map .int)), some (.int 3), some (.list ((ns.take 3).map .int)), none, none] = .nx δ' ∧ ∃ (cs : List Int) (o3 o4 : Option PyData), δ' = [some (.list (ns.map .int)), some (.int 3), some (.list (cs.map .int)), o3, o4] ∧ cs.length ≤ 3 := by
    by_cases h3 : ns.length ≤ 3
    · have := cut_mid_nil ns 3 (some (63 : Int)) h3
      have this : cutL ns (some (3 : Int)) (some 63) = [] := this
      rw [this]
      exact ⟨_, rfl, ns.take 3, none, none, rfl, by simp; omega⟩
    · have hlen : (cutL ns (some (3 : Int)) (some 63)).length ≤ 63 := by
        unfold cutL
        rw [List.length_take, List.length_drop]
        omega
      obtain ⟨δ', e, cs, o3, o4, rfl, hc, _⟩ := for_ind (g := gTu (gsCons (gNm 3) (gsCons (gNm 4) gsNil))) (body := cellSv)
        (fun ds δ => ∃ (cs : List Int) (o3 o4 : Option PyData), δ = [some (.list (ns.map .int)), some (.int 3), some (.list (cs.map .int)), o3, o4] ∧ cs.length = 3 ∧ ∃ (k : Nat) (r : List Int), ds = enumL k (r.map .int) ∧ k + r.length ≤ 63) (by
          rintro d ds δ ⟨cs, o3, o4, rfl, hc, k, r, e1, e2⟩
          cases r with
          | nil => cases e1
          | cons x r =>
            cases e1
            have e2 : k + (r.length + 1) ≤ 63 := e2
            obtain ⟨cs', h1, h2⟩ := cells_step (some (.list (ns.map .int))) cs hc k (by omega) x
            exact ⟨[some (.list (ns.map .int)), some (.int 3), some (.list (cs.map .int)), some (.int (k : Nat)), some (.int x)], _, by simp, h2, cs', _, _, rfl, h1, k + 1, r, rfl, by omega⟩) (enumL 0 ((cutL ns (some (3 : Int)) (some 63)).map .int)) [some (.list (ns.map .int)), some (.int 3), some (.list ((ns.take 3).map .int)), none, none] ⟨ns.take 3, none, none, rfl, by simp; omega, 0, cutL ns (some (3 : Int)) (some 63), rfl, by omega⟩
      exact ⟨_, e, cs, o3, o4, rfl, by omega⟩
  have s1 : (sAsg 2 (eAppF listF (eCons (eSl (eVar 0) eNoPart (ePart (eVar 1))) eNil))) (env0 5 [.list (ns.map .int), .int 3]) = .nx [some (.list (ns.map .int)), some (.int 3), some (.list ((ns.take 3).map .int)), none, none] := by
    simp [c1]
  have s2 : iEn (eSl (eVar 0) (ePart (eVar 1)) (ePart (eC (.int 63)))) [some (.list (ns.map .int)), some (.int 3), some (.list ((ns.take 3).map .int)), none, none] = .ok (enumL 0 ((cutL ns (some (3 : Int)) (some 63)).map .int)) [some (.list (ns.map .int)), some (.int 3), some (.list ((ns.take 3).map .int)), none, none] := by
    simp [c2]
  have ne : neD (.list (cs.map PyData.int)) (.list []) = some (!cs.isEmpty) := by
    cases cs with
    | nil => simp [neD, PyData.eqv, PyData.eqvAll, PyData.depth, PyData.depthAll]
    | cons x r => simp [neD, PyData.eqv, PyData.eqvAll, PyData.depth, PyData.depthAll]
  by_cases h0 : cs = []
  · subst h0
    refine ⟨[0], ?_, by simp⟩
    have ne : neD (.list []) (.list []) = some false := ne
    refine runP_rt (δ := [some (.list (ns.map .int)), some (.int 3), some (.list []), o3, o4]) ?_
    unfold sv__law_cells
    exact (sq_nx s1).trans ((sq_nx (for_ s2 e)).trans (sq_rt (ret_ (by simp [ne]))))
  · refine ⟨cs, ?_, hc⟩
    have h0' : cs.isEmpty = false := by cases cs with
      | nil => exact absurd rfl h0
      | cons => rfl
    rw [h0'] at ne
    refine runP_rt (δ := [some (.list (ns.map .int)), some (.int 3), some (.list (cs.map .int)), o3, o4]) ?_
    unfold sv__law_cells
    generalize hC : cs.map PyData.int = C at *
    exact (sq_nx s1).trans ((sq_nx (for_ s2 e)).trans (sq_rt (ret_ (by simp [ne]))))
theorem of_ok (m : Int) (bc xs : List PyData) (hb : Bx m bc) (hm : m + 4095 ≤ 2 ^ 40) (h0 : xs ≠ []) (h1 : xs.length ≤ 1000000) : ∃ x bc', G__law_of bc [.list xs] = .ok x bc' ∧ x ∈ xs ∧ Bx (m + 4095) bc' := by
  have hp : 0 < xs.length := List.length_pos_iff.mpr h0
  obtain ⟨v, bc', e, g1, g2, hb'⟩ := take_ok m xs.length bc hb hm (by omega) (by omega)
  obtain ⟨x, e2, hx, _⟩ := atV g1 g2
  refine ⟨x, bc', ?_, hx, hb'⟩
  have l := hb'.lf
  simp [G__law_of, runB, sv__law_of, e, l, e2]
theorem seqIx {v : Int} {n : Nat} (h0 : 0 ≤ v) (h1 : v < n) : seqIndex? v n = some v.toNat := by
  unfold seqIndex?
  have h : ¬ v < 0 := by omega
  have h2 : ¬ (n : Int) ≤ v := by omega
  simp [h, h2, h0, h1]
theorem erase_map {α β : Type} (f : α → β) : ∀ (xs : List α) (k : Nat), (xs.map f).eraseIdx k = (xs.eraseIdx k).map f
  | [], _ => rfl
  | x :: xs, 0 => rfl
  | x :: xs, k + 1 => by rw [List.map_cons, List.eraseIdx_cons_succ, erase_map f xs k, List.eraseIdx_cons_succ, List.map_cons]
theorem erase_perm {α : Type} : ∀ (xs : List α) (k : Nat) (h : k < xs.length), (xs[k] :: xs.eraseIdx k).Perm xs
  | x :: xs, 0, _ => List.Perm.refl _
  | x :: xs, k + 1, h => by
    rw [List.getElem_cons_succ, List.eraseIdx_cons_succ]
    exact (List.Perm.swap _ _ _).trans ((erase_perm xs k (by simpa using h)).cons x)
noncomputable abbrev strT : BD.Env → R Bool := BD.tCmp neD (eVar 2) (eApp fLst eNil)
noncomputable abbrev strSv : Sv := (sSeq (sExpr (eMut 3 fAppend (eCons (eMut 2 fPopAt (eCons (eCallB 0 2 G__law_take (eCons (eApp lenD (eCons (eVar 2) eNil)) eNil)) eNil)) eNil)))
  sNil)
theorem ne_emptyL (cs : List Int) : neD (.list (cs.map PyData.int)) (.list []) = some (!cs.isEmpty) := by
  cases cs with
  | nil => simp [neD, PyData.eqv, PyData.eqvAll, PyData.depth, PyData.depthAll]
  | cons x r => simp [neD, PyData.eqv, PyData.eqvAll, PyData.depth, PyData.depthAll]
theorem str_step (m : Int) (bc : List PyData) (hb : Bx m bc) (hm : m + 4095 ≤ 2 ^ 40) (o1 : Option PyData) (L F : List Int) (hL : L ≠ []) (hl : L.length + F.length ≤ 1000) :
    ∃ (L' F' : List Int) (bc' : List PyData), strSv [some (.list bc), o1, some (.list (L.map .int)), some (.list (F.map .int))] = .nx [some (.list bc'), o1, some (.list (L'.map .int)), some (.list (F'.map .int))] ∧ Bx (m + 4095) bc' ∧ L'.length + 1 = L.length ∧ (F' ++ L').Perm (F ++ L) := by
  have hp : 0 < L.length := List.length_pos_iff.mpr hL
  obtain ⟨v, bc', e, g1, g2, hb'⟩ := take_ok m L.length bc hb hm (by omega) (by omega)
  have l := hb'.lf
  have hi : v.toNat < L.length := by omega
  have e2 : fPopAt (L.map PyData.int) [.int v] = some (.int L[v.toNat], (L.eraseIdx v.toNat).map .int) := by
    have hr : inR v = true := inR_small (by omega) (by omega)
    unfold fPopAt
    simp only
    rw [if_pos hr, List.length_map, seqIx g1 g2]
    simp [hi, erase_map]
  refine ⟨L.eraseIdx v.toNat, F ++ [L[v.toNat]], bc', ?_, hb', ?_, ?_⟩
  · have e3 : fAppend (F.map PyData.int) [.int L[v.toNat]] = some (.none, (F ++ [L[v.toNat]]).map .int) := by
      have : F.length < 16777216 := by omega
      simp [fAppend, this]
    have ln : lenD [.list (L.map PyData.int)] = some (.int (L.length : Nat)) := by simp
    generalize (F ++ [L[v.toNat]]).map PyData.int = F2 at *
    generalize (L.eraseIdx v.toNat).map PyData.int = L2 at *
    generalize L[v.toNat] = x at *
    generalize F.map PyData.int = F1 at *
    generalize hL1 : L.map PyData.int = L1 at *
    simp [e, l, e2, e3, ln]
  · rw [List.length_eraseIdx_of_lt hi]; omega
  · rw [List.append_assoc]
    refine List.Perm.append_left F ?_
    exact erase_perm L _ hi
theorem strewn_ok (m : Int) (bc : List PyData) (hb : Bx m bc) (b : Bool) (ns : List Int) (hl : ns.length ≤ 1000) (hm : m + 5000000 ≤ 2 ^ 40) : ∃ (qs : List Int) (bc' : List PyData), G__law_strewn bc [sqd b (ns.map .int)] = .ok (.list (qs.map .int)) bc' ∧ qs.Perm ns ∧ Bx (m + 4095 * ns.length) bc' := by
  obtain ⟨δ', e, qs, bc', rfl, h1, h2⟩ := wh_ind (t := strT) (body := strSv)
    (fun δ => ∃ (L F : List Int) (bc' : List PyData), δ = [some (.list bc'), some (sqd b (ns.map .int)), some (.list (L.map .int)), some (.list (F.map .int))] ∧ (F ++ L).Perm ns ∧ Bx (m + 4095 * (ns.length - L.length : Nat)) bc')
    (fun δ => ∃ (qs : List Int) (bc' : List PyData), δ = [some (.list bc'), some (sqd b (ns.map .int)), some (.list []), some (.list (qs.map .int))] ∧ qs.Perm ns ∧ Bx (m + 4095 * ns.length) bc')
    (fun δ => match δ with | [_, _, some (.list L), _] => L.length | _ => 0) (by
      rintro δ ⟨L, F, bc', rfl, h1, h2⟩
      have hlen := h1.length_eq
      rw [List.length_append] at hlen
      by_cases h : L = []
      · subst h
        left
        have ne := ne_emptyL []
        refine ⟨_, by
          have nxX : NX (sqd b (ns.map .int)) := inferInstance
          generalize sqd b (ns.map .int) = X at *
          have ne : neD (.list []) (.list []) = some false := ne
          simp [ne], F, bc', rfl, by simpa using h1, by simpa using h2⟩
      · right
        have ne := ne_emptyL L
        have h0 : L.isEmpty = false := by cases L with
          | nil => exact absurd rfl h
          | cons => rfl
        rw [h0] at ne
        have hp : 0 < L.length := List.length_pos_iff.mpr h
        obtain ⟨L', F', b2, e, g1, g2, g3⟩ := str_step _ bc' h2 (by omega) (some (sqd b (ns.map .int))) L F h (by omega)
        refine ⟨[some (.list bc'), some (sqd b (ns.map .int)), some (.list (L.map .int)), some (.list (F.map .int))], _, by
          have nxX : NX (sqd b (ns.map .int)) := inferInstance
          generalize sqd b (ns.map .int) = X at *
          generalize hL : L.map PyData.int = L1 at *
          simp [ne], e, ⟨L', F', b2, rfl, g3.trans h1, g1.mono (by omega)⟩, ?_⟩
        show (L'.map PyData.int).length < (L.map PyData.int).length
        rw [List.length_map, List.length_map]
        omega) [some (.list bc), some (sqd b (ns.map .int)), some (.list (ns.map .int)), some (.list [])] ⟨ns, [], bc, rfl, by simp, by simpa using hb⟩
  refine ⟨qs, bc', runB_rt (δ := [some (.list bc'), some (sqd b (ns.map .int)), some (.list []), some (.list (qs.map .int))]) ?_ rfl, h1, h2⟩
  unfold sv__law_strewn
  have lis := sqd_lis b (ns.map PyData.int)
  have nxX : NX (sqd b (ns.map .int)) := inferInstance
  generalize sqd b (ns.map .int) = X at *
  have s1 : sPar (gsCons (gNm 2) (gsCons (gNm 3) gsNil)) (eCons (eAppF listF (eCons (eVar 1) eNil)) (eCons (eAppF fId eNil) eNil)) (env0 4 [.list bc, X]) = .nx [some (.list bc), some X, some (.list (ns.map .int)), some (.list [])] := by simp [lis]
  exact (sq_nx s1).trans ((sq_nx e).trans (sq_rt (ret_ (by simp))))
noncomputable abbrev rbSv : Sv := (sSeq (sAsg 5 (eCallB 0 2 G__law_take (eCons (eBin addD (eVar 2) (eC (.int 1))) eNil)))
  (sSeq (sIf (tAn (BD.tCmp neD (eVar 3) (eApp fLst eNil)) (BD.tCmp gtD (eCallB 0 2 G__law_take (eCons (eC (.int 3)) eNil)) (eC (.int 0))))
  (sSeq (sAsg 5 (eLF (eBin addD (eBin addD (eCallB 0 2 G__law_of (eCons (eVar 3) eNil)) (eC (.int 1))) (eCallB 0 2 G__law_take (eCons (eC (.int 3)) eNil)))))
  sNil)
  sNil)
  (sSeq (sWhile (BD.tCmp inD (eVar 5) (eVar 3))
  (sSeq (sAsg 5 (eBin addD (eVar 5) (eC (.int 1))))
  sNil))
  (sSeq (sExpr (eMut 3 fAppend (eCons (eVar 5) eNil)))
  sNil))))
theorem rb_step (m : Int) (bc : List PyData) (hb : Bx m bc) (hm : m + 20000 ≤ 2 ^ 40) (o1 o4 o5 : Option PyData) (top : Int) (t0 : 0 ≤ top) (t1 : top + 1 < 2 ^ 200) (F : List Int) (hl : F.length ≤ 100) (M : Int) (hM : top ≤ M) (hF : ∀ x ∈ F, 0 ≤ x ∧ x ≤ M) (nd : F.Nodup) :
    ∃ (c : Int) (bc' : List PyData), rbSv [some (.list bc), o1, some (.int top), some (.list (F.map .int)), o4, o5] = .nx [some (.list bc'), o1, some (.int top), some (.list ((F ++ [c]).map .int)), o4, some (.int c)] ∧ Bx (m + 16380) bc' ∧ 0 ≤ c ∧ c ≤ M + 3 + F.length ∧ (F ++ [c]).Nodup := by
  obtain ⟨v, b1, e1, g1, g2, hb1⟩ := take_ok m (top + 1) bc hb (by omega) (by omega) t1
  have l1 := hb1.lf
  have ne := ne_emptyL F
  have s1 : (sAsg 5 (eCallB 0 2 G__law_take (eCons (eBin addD (eVar 2) (eC (.int 1))) eNil))) [some (.list bc), o1, some (.int top), some (.list (F.map .int)), o4, o5] = .nx [some (.list b1), o1, some (.int top), some (.list (F.map .int)), o4, some (.int v)] := by
    generalize hF1 : F.map PyData.int = F1 at *
    simp [e1, l1]
  obtain ⟨w, b2, s2, hb2, w0, w1⟩ : ∃ (w : Int) (b2 : List PyData), (sIf (tAn (BD.tCmp neD (eVar 3) (eApp fLst eNil)) (BD.tCmp gtD (eCallB 0 2 G__law_take (eCons (eC (.int 3)) eNil)) (eC (.int 0))))
      (sSeq (sAsg 5 (eLF (eBin addD (eBin addD (eCallB 0 2 G__law_of (eCons (eVar 3) eNil)) (eC (.int 1))) (eCallB 0 2 G__law_take (eCons (eC (.int 3)) eNil))))) sNil) sNil) [some (.list b1), o1, some (.int top), some (.list (F.map .int)), o4, some (.int v)] = .nx [some (.list b2), o1, some (.int top), some (.list (F.map .int)), o4, some (.int w)] ∧ Bx (m + 16380) b2 ∧ 0 ≤ w ∧ w ≤ M + 3 := by
    by_cases h : F = []
    · subst h
      have ne : neD (.list []) (.list []) = some false := ne
      exact ⟨v, b1, by simp [ne], hb1.mono (by omega), g1, by omega⟩
    · have h0 : F.isEmpty = false := by cases F with
        | nil => exact absurd rfl h
        | cons => rfl
      rw [h0] at ne
      obtain ⟨t, b2, e2, k1, k2, hb2⟩ := take_ok _ 3 b1 hb1 (by omega) (by decide) (by decide)
      have l2 := hb2.lf
      by_cases ht : 0 < t
      · obtain ⟨x, b3, e3, hx, hb3⟩ := of_ok _ b2 (F.map .int) hb2 (by omega) (by simpa using h) (by simp; omega)
        have l3 := hb3.lf
        obtain ⟨x, hx', rfl⟩ := List.mem_map.mp hx
        obtain ⟨y, b4, e4, k3, k4, hb4⟩ := take_ok _ 3 b3 hb3 (by omega) (by decide) (by decide)
        have l4 := hb4.lf
        have := hF x hx'
        refine ⟨x + 1 + y, b4, ?_, hb4.mono (by omega), by omega, by omega⟩
        generalize hF1 : F.map PyData.int = F1 at *
        simp [ne, e2, l2, ht, e3, l3, e4, l4]
      · refine ⟨v, b2, ?_, hb2.mono (by omega), g1, by omega⟩
        generalize hF1 : F.map PyData.int = F1 at *
        simp [ne, e2, l2, ht]
  obtain ⟨c, s3, c1, c2, c3⟩ := free_next (some (.list b2)) o1 (some (.int top)) o4 F w w0
  refine ⟨c, b2, ?_, hb2, by omega, by omega, nd_snoc nd c3⟩
  have em : (F ++ [c]).map PyData.int = F.map .int ++ [.int c] := by simp
  rw [em]
  have hm : (F.map PyData.int).length = F.length := by simp
  have hf : F.length < 16777216 := by omega
  generalize hF1 : F.map PyData.int = F1 at *
  exact (sq_nx s1).trans ((sq_nx s2).trans ((sq_nx s3).trans (by simp [hm, hf])))
theorem random_bench_b (K : Int) (m most top : Int) (bc : List PyData) (hb : Bx m bc) (hm : m + 10000000 ≤ 2 ^ 40) (h0 : 0 ≤ most) (h1 : most ≤ 20) (hK : 3 + most ≤ K) (t0 : 0 ≤ top) (t1 : top + 1 < 2 ^ 200) :
    ∃ (ns : List Int) (bc' : List PyData), G__law_random_bench bc [.int most, .int top] = .ok (tuI ns) bc' ∧ (ns.length : Int) ≤ most ∧ (∀ x ∈ ns, 0 ≤ x ∧ x ≤ top + K * ns.length) ∧ ns.Nodup ∧ Bx (m + 1000000) bc' := by
  obtain ⟨n, b1, e1, g1, g2, hb1⟩ := take_ok m (most + 1) bc hb (by omega) (by omega) (by omega)
  have l1 := hb1.lf
  obtain ⟨δ', e, F, b2, o4, o5, rfl, hk, hF, nd, hb2⟩ := for_ind (g := gNm 4) (body := rbSv)
    (fun ds δ => ∃ (F : List Int) (b2 : List PyData) (o4 o5 : Option PyData), δ = [some (.list b2), some (.int most), some (.int top), some (.list (F.map .int)), o4, o5] ∧ F.length + ds.length = n.toNat ∧ (∀ x ∈ F, 0 ≤ x ∧ x ≤ top + K * F.length) ∧ F.Nodup ∧ Bx (m + 4095 + 16380 * F.length) b2) (by
      rintro d ds δ ⟨F, b2, o4, o5, rfl, hk, hF, nd, hb2⟩
      have hk : F.length + (ds.length + 1) = n.toNat := hk
      have kp : 0 ≤ K * (F.length : Nat) := Int.mul_nonneg (by omega) (by omega)
      obtain ⟨c, b3, s, hb3, c0, c1, nd'⟩ := rb_step _ b2 hb2 (by omega) (some (.int most)) (some d) o5 top t0 t1 F (by omega) (top + K * F.length) (by omega) hF nd
      have ks : K * ((F.length + 1 : Nat) : Int) = K * (F.length : Nat) + K := by rw [Int.natCast_add, Int.mul_add]; simp
      refine ⟨_, _, rfl, s, F ++ [c], b3, some d, some (.int c), rfl, by simp; omega, fun x hx => ?_, nd', hb3.mono (by simp; omega)⟩
      rw [List.length_append, List.length_singleton, ks]
      rcases List.mem_append.mp hx with hx | hx
      · have := hF x hx; omega
      · rw [List.mem_singleton.mp hx]; omega) (rngL 0 n) [some (.list b1), some (.int most), some (.int top), some (.list []), none, none] ⟨[], b1, none, none, rfl, by simp [rngL], by simp, List.nodup_nil, by simpa using hb1⟩
  have hk : F.length = n.toNat := by simpa using hk
  obtain ⟨qs, b3, e3, hq, hb3⟩ := strewn_ok _ b2 hb2 false F (by omega) (by omega)
  have l3 := hb3.lf
  have e3 : G__law_strewn b2 [.list (F.map .int)] = .ok (.list (qs.map .int)) b3 := e3
  have hql := hq.length_eq
  refine ⟨qs, b3, runB_rt (δ := [some (.list b3), some (.int most), some (.int top), some (.list (F.map .int)), o4, o5]) ?_ rfl, by omega, fun x hx => ?_, hq.symm.nodup nd, hb3.mono (by omega)⟩
  · unfold sv__law_random_bench
    have s1 : (sAsg 3 (eAppF fId eNil)) (env0 6 [.list bc, .int most, .int top]) = .nx [some (.list bc), some (.int most), some (.int top), some (.list []), none, none] := by simp
    have i1 : inR n = true := inR_small (by omega) (by omega)
    have s2 : iR1 (eCallB 0 2 G__law_take (eCons (eBin addD (eVar 1) (eC (.int 1))) eNil)) [some (.list bc), some (.int most), some (.int top), some (.list []), none, none] = .ok (rngL 0 n) [some (.list b1), some (.int most), some (.int top), some (.list []), none, none] := iR1_ (by simp [e1, l1]) i1
    refine (sq_nx s1).trans ((sq_nx (for_ s2 e)).trans (sq_rt (ret_ ?_)))
    generalize hF1 : F.map PyData.int = F1 at *
    generalize hq1 : qs.map PyData.int = Q1 at *
    simp [e3, l3, tuI, hq1]
  · have := hF x (hq.mem_iff.mp hx)
    rw [hql]
    exact this
theorem random_bench_ok (m most top : Int) (bc : List PyData) (hb : Bx m bc) (hm : m + 10000000 ≤ 2 ^ 40) (h0 : 0 ≤ most) (h1 : most ≤ 20) (t0 : 0 ≤ top) (t1 : top + 1 < 2 ^ 200) :
    ∃ (ns : List Int) (bc' : List PyData), G__law_random_bench bc [.int most, .int top] = .ok (tuI ns) bc' ∧ (ns.length : Int) ≤ most ∧ (∀ x ∈ ns, 0 ≤ x ∧ x ≤ top + 3000) ∧ ns.Nodup ∧ Bx (m + 1000000) bc' := by
  obtain ⟨ns, b, e, h2, h3, h4, h5⟩ := random_bench_b 23 m most top bc hb hm h0 h1 (by omega) t0 t1
  exact ⟨ns, b, e, h2, fun x hx => ⟨(h3 x hx).1, by have := (h3 x hx).2; omega⟩, h4, h5⟩
/-! ### going seat by seat -/
theorem while_up {t : BD.Env → R Bool} {body : Sv} (ns : List Int) (mk : Int → BD.Env) (μ : BD.Env → Nat) (hμ : ∀ c, μ (mk c) = above ns c) (ht : ∀ c, t (mk c) = .ok (decide (c ∈ ns)) (mk c)) (hb : ∀ c, c ∈ ns → body (mk c) = .nx (mk (c + 1))) (c : Int) :
    ∃ r, sWhile t body (mk c) = .nx (mk r) ∧ c ≤ r ∧ r ∉ ns ∧ (∀ x, c ≤ x → x < r → x ∈ ns) ∧ r ≤ c + ns.length := by
  obtain ⟨δ', e, r, rfl, h1, h2, h3, h4⟩ := wh_ind (t := t) (body := body)
    (fun δ => ∃ c', δ = mk c' ∧ c ≤ c' ∧ (∀ x, c ≤ x → x < c' → x ∈ ns) ∧ c' + above ns c' ≤ c + ns.length)
    (fun δ => ∃ c', δ = mk c' ∧ c ≤ c' ∧ c' ∉ ns ∧ (∀ x, c ≤ x → x < c' → x ∈ ns) ∧ c' + above ns c' ≤ c + ns.length) μ (by
      rintro δ ⟨c', rfl, h1, h2, h3⟩
      by_cases h : c' ∈ ns
      · right
        have al := above_lt ns c' h
        refine ⟨_, _, by rw [ht]; simp [h], hb c' h, ⟨c' + 1, rfl, by omega, fun x x1 x2 => ?_, by omega⟩, by rw [hμ, hμ]; exact al⟩
        by_cases e : x = c'
        · rw [e]; exact h
        · exact h2 x x1 (by omega)
      · left
        exact ⟨_, by rw [ht]; simp [h], c', rfl, h1, h, h2, h3⟩) _ ⟨c, rfl, Int.le_refl _, fun x h1 h2 => by omega, by have := above_le ns c; omega⟩
  exact ⟨r, e, h1, h2, h3, by omega⟩
/-- how many of xs are at most c -/
def upto (xs : List Int) (c : Int) : Nat := (xs.filter fun x => decide (x ≤ c)).length
theorem upto_le (xs : List Int) (c : Int) : upto xs c ≤ xs.length := List.length_filter_le _ _
theorem upto_lt (xs : List Int) (c : Int) (h : c ∈ xs) : upto xs (c - 1) < upto xs c := by
  have e : ∀ (l : List Int) (d : Int), upto l d = above (l.map (- ·)) (-d) := fun l d => by
    induction l with
    | nil => rfl
    | cons a l ih =>
      unfold upto above at ih ⊢
      rw [List.map_cons, List.filter_cons, List.filter_cons]
      by_cases h : a ≤ d
      · have h' : -d ≤ -a := by omega
        simp only [h, h', decide_true, if_true, List.length_cons, ih]
      · have h' : ¬ -d ≤ -a := by omega
        simp only [h, h', decide_false, Bool.false_eq_true, if_false, ih]
  rw [e, e]
  have := above_lt (xs.map (- ·)) (-c) (List.mem_map.mpr ⟨c, h, rfl⟩)
  rw [show -(c - 1) = -c + 1 by omega]
  exact this
theorem while_dn {t : BD.Env → R Bool} {body : Sv} (ns : List Int) (mk : Int → BD.Env) (μ : BD.Env → Nat) (hμ : ∀ c, μ (mk c) = upto ns c) (ht : ∀ c, t (mk c) = .ok (decide (c ∈ ns)) (mk c)) (hb : ∀ c, c ∈ ns → body (mk c) = .nx (mk (c - 1))) (c : Int) :
    ∃ r, sWhile t body (mk c) = .nx (mk r) ∧ r ≤ c ∧ r ∉ ns ∧ ∀ x, r < x → x ≤ c → x ∈ ns := by
  obtain ⟨δ', e, r, rfl, h1, h2, h3⟩ := wh_ind (t := t) (body := body)
    (fun δ => ∃ c', δ = mk c' ∧ c' ≤ c ∧ (∀ x, c' < x → x ≤ c → x ∈ ns))
    (fun δ => ∃ c', δ = mk c' ∧ c' ≤ c ∧ c' ∉ ns ∧ ∀ x, c' < x → x ≤ c → x ∈ ns) μ (by
      rintro δ ⟨c', rfl, h1, h2⟩
      by_cases h : c' ∈ ns
      · right
        refine ⟨_, _, by rw [ht]; simp [h], hb c' h, ⟨c' - 1, rfl, by omega, fun x x1 x2 => ?_⟩, by rw [hμ, hμ]; exact upto_lt ns c' h⟩
        by_cases e : x = c'
        · rw [e]; exact h
        · exact h2 x (by omega) x2
      · left
        exact ⟨_, by rw [ht]; simp [h], c', rfl, h1, h, h2⟩) _ ⟨c, rfl, Int.le_refl _, fun x h1 h2 => by omega⟩
  exact ⟨r, e, h1, h2, h3⟩
theorem in_sqd (b : Bool) (c : Int) (xs : List Int) : inD (.int c) (sqd b (xs.map .int)) = some (decide (c ∈ xs)) := by
  cases b
  · exact in_ints c xs
  · exact in_tuI c xs
theorem enum_zip (ns : List Int) : enumL 0 (ns.map .int) = (ns.zipIdx).map fun p => PyData.tuple [.int (p.2 : Nat), .int p.1] := by
  have key : ∀ (ns : List Int) (k : Nat), enumL k (ns.map .int) = (ns.zipIdx k).map fun p => PyData.tuple [.int (p.2 : Nat), .int p.1] := fun ns => by
    induction ns with
    | nil => intro k; rfl
    | cons n ns ih => intro k; rw [List.map_cons, enumL, ih (k + 1), List.zipIdx_cons, List.map_cons]
  exact key ns 0
def Bw (M : Int) (ns : List Int) : Prop := ∀ x ∈ ns, 0 ≤ x ∧ x ≤ M
theorem Bw.set {M : Int} {ns : List Int} (h : Bw M ns) (i : Nat) {r : Int} (h0 : 0 ≤ r) (h1 : r ≤ M) : Bw M (ns.set i r) := fun x hx => by
  rcases List.mem_or_eq_of_mem_set hx with h2 | h2
  · exact h x h2
  · omega
theorem Bw.mono {M N : Int} {ns : List Int} (h : Bw M ns) (l : M ≤ N) : Bw N ns := fun x hx => by have := h x hx; omega
theorem alike_ints : ∀ a b : List Int, PySem.W.alikeAll (a.map PyData.int) (b.map PyData.int) = true
  | [], _ => by simp [PySem.W.alikeAll]
  | _ :: _, [] => by simp [PySem.W.alikeAll]
  | x :: a, y :: b => by simp [PySem.W.alikeAll, PySem.W.alike, alike_ints a b]
theorem srtOk_tups {qs : List (List Int)} (hl : ∀ q ∈ qs, q ≠ []) : srtOk (qs.map tuI) = true := by
  unfold srtOk
  rw [Bool.and_eq_true, Bool.and_eq_true]
  refine ⟨⟨?_, ?_⟩, ?_⟩
  · unfold alikeP
    simp [tuI, PySem.W.alike, alike_ints]
  · unfold niceS
    rw [Bool.or_eq_true]
    left
    rw [List.all_eq_true]
    intro d hd
    obtain ⟨q, hq, rfl⟩ := List.mem_map.mp hd
    cases q with
    | nil => exact absurd rfl (hl _ hq)
    | cons x r => rfl
  · rw [List.all_eq_true]
    intro d hd
    obtain ⟨q, hq, rfl⟩ := List.mem_map.mp hd
    have := PySem.W.depth_ints q
    simp [tuI, PyData.depth, this]
theorem nd_set {F : List Int} (h : F.Nodup) {i : Nat} {r : Int} (hi : i < F.length) (hr : r ∉ F.eraseIdx i) : (F.set i r).Nodup := by
  have p := erase_perm (F.set i r) i (by simpa using hi)
  rw [List.getElem_set_self, List.eraseIdx_set_eq] at p
  exact p.nodup (List.nodup_cons.mpr ⟨hr, h.sublist (List.eraseIdx_sublist F i)⟩)
theorem getD_set (F : List Int) (i k : Nat) (r : Int) : (F.set i r).getD k 0 = if i = k ∧ k < F.length then r else F.getD k 0 := by
  rw [List.getD_eq_getElem?_getD, List.getD_eq_getElem?_getD, List.getElem?_set]
  by_cases h : i = k
  · subst h
    by_cases h2 : i < F.length
    · simp [h2]
    · simp [h2]
  · simp [h]
noncomputable abbrev riT : BD.Env → R Bool := (BD.tCmp inD (eVar 6) (eBin addD (eSl (eVar 3) eNoPart (ePart (eVar 5))) (eSl (eVar 3) (ePart (eBin addD (eVar 5) (eC (.int 1)))) eNoPart)))
noncomputable abbrev riSv : Sv := (sSeq (sAsg 6 (eBin addD (eVar 4) (eCallB 0 2 G__law_take (eCons (eBin addD (eVar 2) (eC (.int 1))) eNil))))
  (sSeq (sWhile riT
  (sSeq (sAsg 6 (eBin addD (eVar 6) (eC (.int 1))))
  sNil))
  (sSeq (sSto 3 (eVar 5) (eVar 6))
  sNil)))
theorem ri_step (m far M : Int) (bc : List PyData) (hb : Bx m bc) (hm : m + 5000 ≤ 2 ^ 39) (X : PyData) (F : List Int) (hF : F.length ≤ 100) (h0 : 0 ≤ far) (h1 : far ≤ 50) (s : Int) (i : Nat) (hi : i < F.length) (s0 : 0 ≤ s) (s1 : s ≤ M) (hB : Bw (M + 200) F) (o6 : Option PyData) :
    ∃ (F' : List Int) (bc' : List PyData) (p6 : Option PyData), riSv [some (.list bc), some X, some (.int far), some (.list (F.map .int)), some (.int s), some (.int (i : Nat)), o6] = .nx [some (.list bc'), some X, some (.int far), some (.list (F'.map .int)), some (.int s), some (.int (i : Nat)), p6] ∧ F'.length = F.length ∧ Bw (M + 200) F' ∧ Bx (m + 4095) bc' ∧ ∃ r, F' = F.set i r ∧ s ≤ r ∧ r ∉ F.eraseIdx i := by
  obtain ⟨v, b1, e1, g1, g2, hb1⟩ := take_ok m (far + 1) bc hb (by omega) (by omega) (by omega)
  have l1 := hb1.lf
  have c1 : slD (.list (F.map .int)) none (some ((i : Nat) : Int)) = some (.list ((F.take i).map .int)) := by
    rw [v_slL, cut_to, List.map_take]
  have c2 : slD (.list (F.map .int)) (some (((i : Nat) : Int) + 1)) none = some (.list ((F.drop (i + 1)).map .int)) := by
    have := cut_from (F.map PyData.int) (i + 1)
    rw [v_slL, show ((i : Nat) : Int) + 1 = ((i + 1 : Nat) : Int) by omega, this, List.map_drop]
  have a1 : addD (.list ((F.take i).map .int)) (.list ((F.drop (i + 1)).map .int)) = some (.list ((F.eraseIdx i).map .int)) := by
    rw [vAddL, if_pos (by simp; omega), ← List.map_append, List.eraseIdx_eq_take_drop_succ]
  have hin := fun c => in_ints c (F.eraseIdx i)
  have hz : ((i : Nat) : Int) < ((F.map PyData.int).length : Nat) := by simp; omega
  have t1 : (sAsg 6 (eBin addD (eVar 4) (eCallB 0 2 G__law_take (eCons (eBin addD (eVar 2) (eC (.int 1))) eNil)))) [some (.list bc), some X, some (.int far), some (.list (F.map .int)), some (.int s), some (.int (i : Nat)), o6] = .nx [some (.list b1), some X, some (.int far), some (.list (F.map .int)), some (.int s), some (.int (i : Nat)), some (.int (s + v))] := by
    generalize F.map PyData.int = F1 at *
    simp [e1, l1]
  obtain ⟨r, e2, r1, r2, r3, r4⟩ := while_up (t := riT) (body := sSeq (sAsg 6 (eBin addD (eVar 6) (eC (.int 1)))) sNil) (F.eraseIdx i) (fun c => [some (.list b1), some X, some (.int far), some (.list (F.map .int)), some (.int s), some (.int (i : Nat)), some (.int c)])
    (fun δ => match δ with | [_, _, _, _, _, _, some (.int c)] => above (F.eraseIdx i) c | _ => 0) (fun _ => rfl) (fun c => by
      have hin := hin c
      generalize PyData.list ((F.take i).map .int) = A at *
      generalize PyData.list ((F.drop (i + 1)).map .int) = D at *
      generalize (F.eraseIdx i).map PyData.int = G at *
      have nxF : NX (PyData.list (F.map .int)) := inferInstance
      generalize PyData.list (F.map PyData.int) = LF at *
      simp [c1, c2, a1, hin]) (fun c _ => by simp) (s + v)
  have le := List.length_eraseIdx_le F i
  refine ⟨F.set i r, b1, some (.int r), (sq_nx t1).trans ((sq_nx e2).trans (sq_nx (sto_ (d := .int r) (j := (i : Nat)) (xs0 := F.map .int) (xs := F.map .int) (ys := (F.set i r).map .int) (δ1 := [some (.list b1), some X, some (.int far), some (.list (F.map .int)), some (.int s), some (.int (i : Nat)), some (.int r)]) (δ2 := [some (.list b1), some X, some (.int far), some (.list (F.map .int)), some (.int s), some (.int (i : Nat)), some (.int r)]) (by simp) (by simp) (by simp) (by simp) ?_))), by simp, hB.set i (by omega) (by omega), hb1, r, rfl, by omega, r2⟩
  rw [setS _ (by simpa using hi), List.map_set]
theorem rise_ok (m far M : Int) (bc : List PyData) (hb : Bx m bc) (hm : m + 500000 ≤ 2 ^ 39) (ns : List Int) (hl : ns.length ≤ 100) (hB : Bw M ns) (nd : ns.Nodup) (h0 : 0 ≤ far) (h1 : far ≤ 50) :
    ∃ (ms : List Int) (bc' : List PyData), G__law_rise bc [tuI ns, .int far] = .ok (tuI ms) bc' ∧ ms.length = ns.length ∧ Bw (M + 200) ms ∧ ms.Nodup ∧ (∀ i : Nat, ns.getD i 0 ≤ ms.getD i 0) ∧ Bx (m + 500000) bc' := by
  have lc : lcL (gTu (gsCons (gNm 5) (gsCons (gNm 4) gsNil))) tYs (eApp fTup (eCons (eVar 4) (eCons (eVar 5) eNil))) [5, 4] (enumL 0 (ns.map .int)) [some (.list bc), some (tuI ns), some (.int far), some (.list (ns.map .int)), none, none, none] [] = .ok (((ns.zipIdx).map fun p => [p.1, ((p.2 : Nat) : Int)]).map tuI) [some (.list bc), some (tuI ns), some (.int far), some (.list (ns.map .int)), none, none, none] := by
    rw [enum_zip, List.map_map]
    refine lc_mapT (fun p : Int × Nat => PyData.tuple [.int (p.2 : Nat), .int p.1]) _ _ _ (by rw [List.length_zipIdx]; omega) fun a ha => ?_
    exact ⟨[some (.list bc), some (tuI ns), some (.int far), some (.list (ns.map .int)), some (.int a.1), some (.int (a.2 : Nat)), none], [some (.list bc), some (tuI ns), some (.int far), some (.list (ns.map .int)), some (.int a.1), some (.int (a.2 : Nat)), none], by simp, by simp [tuI], by simp⟩
  obtain ⟨ps, hps⟩ : ∃ ps, ps = (((ns.zipIdx).map fun p => [p.1, ((p.2 : Nat) : Int)]).map tuI) := ⟨_, rfl⟩
  have so : sortL false ps = some (srtD false ps) := by
    unfold sortL
    rw [if_pos]
    rw [hps]
    exact srtOk_tups fun q hq => by
      obtain ⟨p, _, rfl⟩ := List.mem_map.mp hq
      simp
  rw [← hps] at lc
  have hm2 : ∀ d ∈ (srtD false ps).reverse, ∃ (s : Int) (i : Nat), d = .tuple [.int s, .int (i : Nat)] ∧ i < ns.length ∧ 0 ≤ s ∧ s ≤ M ∧ s = ns.getD i 0 := fun d hd => by
    have hd := (List.mergeSort_perm ps _).mem_iff.mp (List.mem_reverse.mp hd)
    rw [hps] at hd
    obtain ⟨q, hq, rfl⟩ := List.mem_map.mp hd
    obtain ⟨p, hp, rfl⟩ := List.mem_map.mp hq
    have hp := List.mem_zipIdx_iff_getElem?.mp hp
    obtain ⟨h1, h2⟩ := List.getElem?_eq_some_iff.mp hp
    have := hB p.1 (by rw [← h2]; exact List.getElem_mem _)
    exact ⟨p.1, p.2, rfl, h1, this.1, this.2, by rw [List.getD_eq_getElem?_getD, hp]; rfl⟩
  have hlen : (srtD false ps).reverse.length ≤ 100 := by
    rw [List.length_reverse, (List.mergeSort_perm ps _).length_eq, hps]
    simpa using hl
  obtain ⟨δ', e, F, b2, o4, o5, o6, rfl, k1, k2, k3, ⟨kn, kg⟩, _⟩ := for_ind (g := gTu (gsCons (gNm 4) (gsCons (gNm 5) gsNil))) (body := riSv)
    (fun ds δ => ∃ (F : List Int) (b2 : List PyData) (o4 o5 o6 : Option PyData), δ = [some (.list b2), some (tuI ns), some (.int far), some (.list (F.map .int)), o4, o5, o6] ∧ F.length = ns.length ∧ Bw (M + 200) F ∧ (ds.length ≤ 100 ∧ Bx (m + 4095 * (100 - ds.length)) b2) ∧ (F.Nodup ∧ ∀ i : Nat, ns.getD i 0 ≤ F.getD i 0) ∧ ∀ d ∈ ds, ∃ (s : Int) (i : Nat), d = .tuple [.int s, .int (i : Nat)] ∧ i < ns.length ∧ 0 ≤ s ∧ s ≤ M ∧ s = ns.getD i 0) (by
      rintro d ds δ ⟨F, b2, o4, o5, o6, rfl, k1, k2, ⟨k3, hb2⟩, ⟨kn, kg⟩, k4⟩
      rw [List.length_cons] at k3 hb2
      obtain ⟨s, i, rfl, q1, q2, q3, q4⟩ := k4 _ List.mem_cons_self
      obtain ⟨F', b3, p6, e, j1, j2, j3, r, rfl, j4, j5⟩ := ri_step _ far M b2 hb2 (by omega) (tuI ns) F (by omega) h0 h1 s i (by omega) q2 q3 k2 o6
      exact ⟨_, _, by simp, e, F.set i r, b3, _, _, p6, rfl, by omega, j2, ⟨by omega, j3.mono (by omega)⟩, ⟨nd_set kn (by omega) j5, fun k => by
        rw [getD_set]
        split
        · rename_i h; rw [← h.1, ← q4]; exact j4
        · exact kg k⟩, fun d hd => k4 d (List.mem_cons_of_mem _ hd)⟩) (srtD false ps).reverse [some (.list bc), some (tuI ns), some (.int far), some (.list (ns.map .int)), none, none, none] ⟨ns, bc, none, none, none, rfl, rfl, hB.mono (by omega), ⟨hlen, hb.mono (by omega)⟩, ⟨nd, fun _ => Int.le_refl _⟩, hm2⟩
  refine ⟨F, b2, runB_rt (δ := [some (.list b2), some (tuI ns), some (.int far), some (.list (F.map .int)), o4, o5, o6]) ?_ rfl, k1, k2, kn, kg, k3.2.mono (by simp)⟩
  unfold sv__law_rise
  have t0 : (sAsg 3 (eAppF listF (eCons (eVar 1) eNil))) (env0 7 [.list bc, tuI ns, .int far]) = .nx [some (.list bc), some (tuI ns), some (.int far), some (.list (ns.map .int)), none, none, none] := by
    have lf : listF [tuI ns] = some (ns.map .int) := rfl
    generalize ns.map PyData.int = N at *
    simp [lf]
  have sq : seqD (tuI ns) = some (ns.map .int) := rfl
  have g0 : (iSq (eUn revD (eAppF (sortF false) (eCons (eLc [5, 4] (gTu (gsCons (gNm 5) (gsCons (gNm 4) gsNil))) (iEn (eVar 1)) tYs (eApp fTup (eCons (eVar 4) (eCons (eVar 5) eNil)))) eNil)))) [some (.list bc), some (tuI ns), some (.int far), some (.list (ns.map .int)), none, none, none] = .ok (srtD false ps).reverse [some (.list bc), some (tuI ns), some (.int far), some (.list (ns.map .int)), none, none, none] := by
    generalize ns.map PyData.int = N at *
    generalize srtD false ps = Z at *
    simp [sq, lc, so]
  exact (sq_nx t0).trans ((sq_nx (for_ g0 e)).trans (sq_rt (ret_ (by simp [tuI]))))
theorem put_ok {ns : List Int} {i : Nat} (s : Int) (hi : i < ns.length) (hl : ns.length ≤ 1000) : G__law_put [tuI ns, .int (i : Nat), .int s] = .ok (tuI (ns.set i s)) [] := by
  have c1 : slD (tuI ns) none (some ((i : Nat) : Int)) = some (tuI (ns.take i)) := by
    unfold tuI
    rw [v_slT, cut_to, List.map_take]
  have c2 : slD (tuI ns) (some (((i : Nat) : Int) + 1)) none = some (tuI (ns.drop (i + 1))) := by
    unfold tuI
    have := cut_from (ns.map PyData.int) (i + 1)
    rw [v_slT, show ((i : Nat) : Int) + 1 = ((i + 1 : Nat) : Int) by omega, this, List.map_drop]
  have a1 : addD (tuI (ns.take i)) (.tuple [.int s]) = some (tuI (ns.take i ++ [s])) := by
    unfold tuI
    rw [vAddT, if_pos (by simp; omega)]
    simp
  have a2 : addD (tuI (ns.take i ++ [s])) (tuI (ns.drop (i + 1))) = some (tuI (ns.set i s)) := by
    unfold tuI
    rw [vAddT, if_pos (by simp; omega), ← List.map_append, List.append_assoc, List.set_eq_take_append_cons_drop, if_pos hi]
    rfl
  generalize tuI (ns.take i) = A at *
  generalize tuI (ns.take i ++ [s]) = B at *
  generalize tuI (ns.drop (i + 1)) = D at *
  simp [G__law_put, runP, sv__law_put, c1, c2, a1, a2]
theorem at_zero (d : PyData) (r : List PyData) : atD (.list (d :: r)) (.int 0) = some d := by
  show L2.atI (d :: r) ((0 : Nat) : Int) = _
  rw [atS]; rfl
def Lw (ns ms : List Int) : List PyData := ((ns.zip ms).zipIdx.filter fun a => decide (a.1.2 < a.1.1)).map fun a => PyData.int (a.2 : Nat)
def hdD : List PyData → PyData
  | [] => .none
  | d :: _ => d
theorem Lw_int (ns ms : List Int) : ∀ d ∈ Lw ns ms, ∃ k : Nat, d = .int k := fun d hd => by
  obtain ⟨a, _, rfl⟩ := List.mem_map.mp hd
  exact ⟨a.2, rfl⟩
theorem Lw_len (ns ms : List Int) : (Lw ns ms).length ≤ ns.length := by
  unfold Lw
  rw [List.length_map]
  refine Nat.le_trans (List.length_filter_le _ _) ?_
  rw [List.length_zipIdx, List.length_zip]
  exact Nat.min_le_left _ _
theorem hd_kind (ns ms : List Int) : hdD (Lw ns ms) = .none ∨ ∃ k : Nat, hdD (Lw ns ms) = .int k := by
  cases e : Lw ns ms with
  | nil => exact .inl rfl
  | cons d r =>
    obtain ⟨k, rfl⟩ := Lw_int ns ms d (e ▸ List.mem_cons_self)
    exact .inr ⟨k, rfl⟩
theorem bar_ok (b b2 : Bool) {ns ms : List Int} (hl : ns.length ≤ 100) (h : ns.length = ms.length) : G_bar [sqd b (ns.map .int), sqd b2 (ms.map .int)] = .ok (hdD (Lw ns ms)) [] := by
  have ln := sqd_len b (ns.map .int)
  have lm := sqd_len b2 (ms.map .int)
  have sn := sqd_seq b (ns.map .int)
  have sm := sqd_seq b2 (ms.map .int)
  have nxX : NX (sqd b (ns.map .int)) := inferInstance
  have nxY : NX (sqd b2 (ms.map .int)) := inferInstance
  rw [List.length_map] at ln lm
  rw [← h] at lm
  have iz : enumL 0 (zipL (ns.map .int) (ms.map .int)) = ((ns.zip ms).zipIdx).map fun a => PyData.tuple [.int (a.2 : Nat), .tuple [.int a.1.1, .int a.1.2]] := by
    rw [zip_map]
    have key : ∀ (l : List (Int × Int)) (k : Nat), enumL k (l.map fun p => PyData.tuple [.int p.1, .int p.2]) = (l.zipIdx k).map fun a => PyData.tuple [.int (a.2 : Nat), .tuple [.int a.1.1, .int a.1.2]] := fun l => by
      induction l with
      | nil => intro k; rfl
      | cons n l ih => intro k; rw [List.map_cons, enumL, ih (k + 1), List.zipIdx_cons, List.map_cons]
    exact key _ 0
  generalize sqd b (ns.map .int) = X at *
  generalize sqd b2 (ms.map .int) = Y at *
  have lk : G_look_many [X, Y] = .ok .none [] := by simp [G_look_many, runP, sv_look_many, ln, lm]
  have lc : lcL (gTu (gsCons (gNm 3) (gsCons (gTu (gsCons (gNm 4) (gsCons (gNm 5) gsNil))) gsNil))) (BD.tCmp ltD (eVar 5) (eVar 4)) (eVar 3) [3, 4, 5] (enumL 0 (zipL (ns.map .int) (ms.map .int))) [some X, some Y, none, none, none, none] [] = .ok (Lw ns ms) [some X, some Y, none, none, none, none] := by
    rw [iz]
    have := lc_filT (g := gTu (gsCons (gNm 3) (gsCons (gTu (gsCons (gNm 4) (gsCons (gNm 5) gsNil))) gsNil))) (t := BD.tCmp ltD (eVar 5) (eVar 4)) (el := eVar 3) (vs := [3, 4, 5]) (fun a : (Int × Int) × Nat => PyData.tuple [.int (a.2 : Nat), .tuple [.int a.1.1, .int a.1.2]]) (fun a => decide (a.1.2 < a.1.1)) (fun a => PyData.int (a.2 : Nat)) [some X, some Y, none, none, none, none] ((ns.zip ms).zipIdx) (fun a ha => 
      ⟨[some X, some Y, none, some (.int (a.2 : Nat)), some (.int a.1.1), some (.int a.1.2)], [some X, some Y, none, some (.int (a.2 : Nat)), some (.int a.1.1), some (.int a.1.2)], by simp, by simp, fun _ => ⟨[some X, some Y, none, some (.int (a.2 : Nat)), some (.int a.1.1), some (.int a.1.2)], by simp, by simp⟩, fun _ => by simp⟩) [] (by
      simp only [List.length_nil, List.length_zipIdx, List.length_zip]
      omega)
    simpa [Lw] using this
  generalize ns.map PyData.int = N at *
  generalize ms.map PyData.int = M at *
  rcases e : Lw ns ms with _ | ⟨d, r⟩
  · rw [e] at lc
    simp [G_bar, runP, sv_bar, lk, sn, sm, lc, hdD]
  · obtain ⟨k, rfl⟩ := Lw_int ns ms d (e ▸ List.mem_cons_self)
    rw [e] at lc
    have a0 : atD (.list (.int k :: r)) (.int 0) = some (.int k) := at_zero _ _
    have p : (0 : Int) < (r.length : Nat) + 1 := by omega
    simp [G_bar, runP, sv_bar, lk, sn, sm, lc, hdD, a0, p]
theorem bar_bad (b b2 : Bool) {ns ms : List Int} (h : ns.length ≠ ms.length) : G_bar [sqd b (ns.map .int), sqd b2 (ms.map .int)] = .exc "OtherPeople" "many" (.int ms.length) [] := by
  have ln := sqd_len b (ns.map .int)
  have lm := sqd_len b2 (ms.map .int)
  have nxX : NX (sqd b (ns.map .int)) := inferInstance
  have nxY : NX (sqd b2 (ms.map .int)) := inferInstance
  rw [List.length_map] at ln lm
  have h' : ¬ ((ns.length : Nat) : Int) = (ms.length : Nat) := by omega
  generalize sqd b (ns.map .int) = X at *
  generalize sqd b2 (ms.map .int) = Y at *
  have lk : G_look_many [X, Y] = .exc "OtherPeople" "many" (.int ms.length) [] := by simp [G_look_many, runP, sv_look_many, ln, lm, h']
  simp [G_bar, runP, sv_bar, lk]
theorem look_leads_exc {X Y x : PyData} [NX X] [NX Y] [NX x] {c f : Str} (h : G_bar [X, Y] = .exc c f x []) : G_look_leads [X, Y] = .exc c f x [] := by simp [G_look_leads, runP, sv_look_leads, h]
theorem look_leads_bar {X Y : PyData} [NX X] [NX Y] {k : Int} (h : G_bar [X, Y] = .ok (.int k) []) : G_look_leads [X, Y] = .exc "Barred" "person" (.int k) [] := by simp [G_look_leads, runP, sv_look_leads, h]
theorem look_leads_ok {X Y : PyData} [NX X] [NX Y] (h : G_bar [X, Y] = .ok .none []) : G_look_leads [X, Y] = .ok .none [] := by simp [G_look_leads, runP, sv_look_leads, h]
theorem dist_exc {X Y x : PyData} [NX X] [NX Y] [NX x] {c f : Str} (h : G_look_leads [X, Y] = .exc c f x []) : G_moved [X, Y] = .exc c f x [] ∧ G_rings [X, Y] = .exc c f x [] ∧ G_distance [X, Y] = .exc c f x [] ∧ G_firsts [X, Y] = .exc c f x [] ∧ G_shortest [X, Y] = .exc c f x [] ∧ G_ways_many [X, Y] = .exc c f x [] := by
  have h1 : G_moved [X, Y] = .exc c f x [] := by simp [G_moved, runP, sv_moved, h]
  have h2 : G_rings [X, Y] = .exc c f x [] := by simp [G_rings, runP, sv_rings, h]
  have h3 : G_distance [X, Y] = .exc c f x [] := by simp [G_distance, runP, sv_distance, h1]
  refine ⟨h1, h2, h3, ?_, ?_, ?_⟩
  · simp [G_firsts, runP, sv_firsts, h3]
  · simp [G_shortest, runP, sv_shortest, h3]
  · simp [G_ways_many, runP, sv_ways_many, h3]
theorem fut_exc {X Y T x : PyData} [NX X] [NX Y] [NX T] [NX x] {c f : Str} (h : G_look_leads [X, Y] = .exc c f x []) : G_future_number [X, T, Y] = .exc c f x [] := by simp [G_future_number, runP, sv_future_number, h]
theorem past_exc {X Y x : PyData} [NX X] [NX Y] [NX x] {n : Int} {c f : Str} (lx : lenD [X] = some (.int n)) (ly : lenD [Y] = some (.int n)) (h : G_look_leads [X, Y] = .exc c f x []) : G_past_number [Y, X] = .exc c f x [] := by simp [G_past_number, runP, sv_past_number, lx, ly, h]
theorem past_exc2 {X Y x : PyData} [NX X] [NX Y] [NX x] {n k : Int} {c f : Str} (lx : lenD [X] = some (.int n)) (ly : lenD [Y] = some (.int k)) (hk : ¬ k = n) (h : G_look_leads [Y, X] = .exc c f x []) : G_past_number [Y, X] = .exc c f x [] := by simp [G_past_number, runP, sv_past_number, lx, ly, hk, h]
abbrev CS13 : List (Str × Str) := [("Barred", "person"), ("First", "person"), ("NoFuture", "limit"), ("NoNumber", "number"), ("NoPerson", "person"), ("OtherPeople", "many"), ("Taken", "seat")]
noncomputable abbrev tb13 : Sv := (sSeq (sIf (BD.tCmp ltD (eVar 0) (eC (.int 6)))
  (sSeq (sAsg 6 (eDoor 2 [G_moved, G_rings, G_distance, G_firsts, G_shortest, G_ways_many] (eVar 0) (eCons (eVar 1) (eCons (eVar 2) eNil))))
  sNil)
  (sSeq (sAsg 6 (eIf (BD.tCmp eqD (eVar 0) (eC (.int 6))) (eCallP 3 none G_future_number (eCons (eVar 1) (eCons (eVar 3) (eCons (eVar 2) eNil)))) (eCallP 2 none G_past_number (eCons (eVar 2) (eCons (eVar 1) eNil)))))
  sNil))
  sNil)
noncomputable abbrev tr13 : Sv := (sSeq (sTry 8 7 CS13 tb13) sNil)
/-- what a door's error is told as -/
theorem told_exc {d : Int} {X Y T x : PyData} [NX X] [NX Y] [NX T] [NX x] {c f : Str} (hc : CS13.contains (c, f) = true)
    (h : (d ∈ ([0, 1, 2, 3, 4, 5] : List Int) ∧ G_moved [X, Y] = .exc c f x [] ∧ G_rings [X, Y] = .exc c f x [] ∧ G_distance [X, Y] = .exc c f x [] ∧ G_firsts [X, Y] = .exc c f x [] ∧ G_shortest [X, Y] = .exc c f x [] ∧ G_ways_many [X, Y] = .exc c f x []) ∨ (d = 6 ∧ G_future_number [X, T, Y] = .exc c f x []) ∨ (d = 7 ∧ G_past_number [Y, X] = .exc c f x [])) :
    tr13 [some (.int d), some X, some Y, some T, none, none, some .none, some .none, none] = .nx [some (.int d), some X, some Y, some T, none, none, some .none, some (xD c f x), none] := by
  have b : tb13 [some (.int d), some X, some Y, some T, none, none, some .none, some .none, none] = .exc c f x [some (.int d), some X, some Y, some T, none, none, some .none, some .none, none] := by
    rcases h with ⟨hd, h1, h2, h3, h4, h5, h6⟩ | ⟨rfl, h⟩ | ⟨rfl, h⟩
    · simp at hd
      rcases hd with rfl | rfl | rfl | rfl | rfl | rfl
      · simp [h1]
      · simp [h2]
      · simp [h3]
      · simp [h4]
      · simp [h5]
      · simp [h6]
    · simp [h]
    · simp [h]
  unfold tr13
  rw [sq_nil, vTry, b]
  dsimp only
  rw [if_pos hc]
  rfl
theorem told_of {d : Int} {X Y T x z : PyData} [NX X] [NX Y] [NX T] [NX x] {c f : Str} (h : tr13 [some (.int d), some X, some Y, some T, none, none, some .none, some .none, none] = .nx [some (.int d), some X, some Y, some T, none, none, some .none, some (xD c f x), none])
    (hk : (c = "OtherPeople" ∧ f = "many" ∧ z = .tuple [.str "OtherPeople", x]) ∨ (c = "NoFuture" ∧ f = "limit" ∧ z = .tuple [.str "NoFuture", x]) ∨ (c = "Barred" ∧ f = "person" ∧ z = .tuple [.str "Barred", x])) : G__law_told [.int d, X, Y, T] = .ok z [] := by
  have s0 : (sUnp (gTu (gsCons (gNm 6) (gsCons (gNm 7) gsNil))) (eApp fTup (eCons (eC .none) (eCons (eC .none) eNil)))) (env0 9 [.int d, X, Y, T]) = .nx [some (.int d), some X, some Y, some T, none, none, some .none, some .none, none] := by simp
  have h := (sq_nil (s := sTry 8 7 CS13 tb13)).symm.trans h
  suffices hs : ∃ δ, sv__law_told G_moved G_rings G_distance G_firsts G_shortest G_ways_many G_future_number G_past_number (env0 9 [.int d, X, Y, T]) = .rt z δ by
    obtain ⟨δ, hs⟩ := hs
    exact runP_rt hs
  suffices hs : ∃ δ, (sSeq (sIf (tXNo 7)
  (sSeq (sRet (eVar 6))
  sNil)
  sNil)
  (sSeq (sAsg 4 (eApp fLst (eCons (eIsX 7 [XT.own "OtherPeople"]) (eCons (eIsX 7 [XT.own "NoFuture"]) (eCons (eIsX 7 [XT.own "Barred"]) eNil)))))
  (sSeq (sAsg 5 (eApp fLst (eCons (eIsX 7 [XT.blt "ValueError"]) (eCons (eIsX 7 [XT.blt "ValueError"]) (eCons (eIsX 7 [XT.blt "RuntimeError"]) eNil)))))
  (sSeq (sIf (tOr' (BD.tCmp neD (eMet "list" cntF (eVar 4) (eCons (eC (.bool true)) eNil)) (eC (.int 1))) (tNo (tTru (eBin atD (eVar 5) (eMet "list" idxF (eVar 4) (eCons (eC (.bool true)) eNil))))))
  (sSeq (sRet (eC (.str "other")))
  sNil)
  sNil)
  (sSeq (sIf (tTru (eIsX 7 [XT.own "First", XT.own "NoNumber", XT.own "NoPerson", XT.own "Taken"]))
  (sSeq (sRet (eC (.str "other")))
  sNil)
  sNil)
  (sSeq (sIf (tTru (eBin atD (eVar 4) (eC (.int 0))))
  (sSeq (sRet (eApp fTup (eCons (eC (.str "OtherPeople")) (eCons (eXF 7 "many") eNil))))
  sNil)
  sNil)
  (sSeq (sRet (eIf (tTru (eBin atD (eVar 4) (eC (.int 1)))) (eApp fTup (eCons (eC (.str "NoFuture")) (eCons (eXF 7 "limit") eNil))) (eApp fTup (eCons (eC (.str "Barred")) (eCons (eXF 7 "person") eNil)))))
  sNil))))))) [some (.int d), some X, some Y, some T, none, none, some .none, some (xD c f x), none] = .rt z δ by
    obtain ⟨δ, hs⟩ := hs
    exact ⟨δ, (sq_nx s0).trans ((sq_nx h).trans hs)⟩
  clear h s0
  rcases hk with ⟨rfl, rfl, rfl⟩ | ⟨rfl, rfl, rfl⟩ | ⟨rfl, rfl, rfl⟩
  · have d1 : xIs "OtherPeople" (.own "OtherPeople") = true := by decide
    have d2 : xIs "OtherPeople" (.own "NoFuture") = false := by decide
    have d3 : xIs "OtherPeople" (.own "Barred") = false := by decide
    have d4 : xIs "OtherPeople" (.blt "ValueError") = true := by decide +kernel
    have d5 : xIs "OtherPeople" (.blt "RuntimeError") = false := by decide +kernel
    have d6 : xIs "OtherPeople" (.own "First") = false := by decide
    have d7 : xIs "OtherPeople" (.own "NoNumber") = false := by decide
    have d8 : xIs "OtherPeople" (.own "NoPerson") = false := by decide
    have d9 : xIs "OtherPeople" (.own "Taken") = false := by decide
    have i1 : idxF (.list [.bool true, .bool false, .bool false]) [.bool true] = some (.int 0) := by rw [idxF_l (by decide +kernel)]; simp [List.findIdx?_cons]
    have i2 : cntF (.list [.bool true, .bool false, .bool false]) [.bool true] = some (.int 1) := by simp
    exact ⟨_, by simp [d1, d2, d3, d4, d5, d6, d7, d8, d9, i1, i2]; rfl⟩
  · have d1 : xIs "NoFuture" (.own "OtherPeople") = false := by decide
    have d2 : xIs "NoFuture" (.own "NoFuture") = true := by decide
    have d3 : xIs "NoFuture" (.own "Barred") = false := by decide
    have d4 : xIs "NoFuture" (.blt "ValueError") = true := by decide +kernel
    have d5 : xIs "NoFuture" (.blt "RuntimeError") = false := by decide +kernel
    have d6 : xIs "NoFuture" (.own "First") = false := by decide
    have d7 : xIs "NoFuture" (.own "NoNumber") = false := by decide
    have d8 : xIs "NoFuture" (.own "NoPerson") = false := by decide
    have d9 : xIs "NoFuture" (.own "Taken") = false := by decide
    have i1 : idxF (.list [.bool false, .bool true, .bool false]) [.bool true] = some (.int 1) := by rw [idxF_l (by decide +kernel)]; simp [List.findIdx?_cons]
    have i2 : cntF (.list [.bool false, .bool true, .bool false]) [.bool true] = some (.int 1) := by simp
    exact ⟨_, by simp [d1, d2, d3, d4, d5, d6, d7, d8, d9, i1, i2]; rfl⟩
  · have d1 : xIs "Barred" (.own "OtherPeople") = false := by decide
    have d2 : xIs "Barred" (.own "NoFuture") = false := by decide
    have d3 : xIs "Barred" (.own "Barred") = true := by decide
    have d4 : xIs "Barred" (.blt "ValueError") = false := by decide +kernel
    have d5 : xIs "Barred" (.blt "RuntimeError") = true := by decide +kernel
    have d6 : xIs "Barred" (.own "First") = false := by decide
    have d7 : xIs "Barred" (.own "NoNumber") = false := by decide
    have d8 : xIs "Barred" (.own "NoPerson") = false := by decide
    have d9 : xIs "Barred" (.own "Taken") = false := by decide
    have i1 : idxF (.list [.bool false, .bool false, .bool true]) [.bool true] = some (.int 2) := by rw [idxF_l (by decide +kernel)]; simp [List.findIdx?_cons]
    have i2 : cntF (.list [.bool false, .bool false, .bool true]) [.bool true] = some (.int 1) := by simp
    have a2 : L2.atI [PyData.bool false, .bool false, .bool true] 2 = some (.bool true) := atS _ 2
    exact ⟨_, by simp [d1, d2, d3, d4, d5, d6, d7, d8, d9, i1, i2, a2]; rfl⟩
def pr (x : Str) (d : PyData) : PyData := .tuple [.str x, d]
instance (x : Str) (d : PyData) : NX (pr x d) := ⟨rfl⟩
theorem okd_pr (x : Str) (i : Int) (n : Nat) : okd (n + 1) (pr x (.int i)) := ⟨by simp, fun d hd => by
  simp at hd
  rcases hd with rfl | rfl <;> cases n <;> exact True.intro⟩
theorem rep_ok (d : PyData) (n : Nat) (hn : n ≤ 1000) : mulD (.list [d]) (.int (n : Nat)) = some (.list (List.replicate n d)) := by
  have c : repC [d] (n : Nat) = true := repC_of (by omega) (by omega) (by simp)
  have key : ∀ m : Nat, (List.replicate m [d]).flatten = List.replicate m d := by
    intro m
    induction m with
    | zero => rfl
    | succ m ih => rw [List.replicate_succ, List.replicate_succ, List.flatten_cons, ih]; rfl
  rw [vMulL, if_pos c, Int.toNat_natCast, key]
theorem max_tu (zs : List Int) (a : Int) : ∃ M, bestD mxI [tuI (zs ++ [a])] = some (.int M) ∧ M ∈ zs ++ [a] ∧ ∀ x ∈ zs ++ [a], x ≤ M := by
  obtain ⟨z, r, e⟩ : ∃ z r, zs ++ [a] = z :: r := by
    cases zs with
    | nil => exact ⟨a, [], rfl⟩
    | cons z r => exact ⟨z, r ++ [a], rfl⟩
  rw [e]
  obtain ⟨g1, g2⟩ := mxI_ge r z
  refine ⟨mxI z r, by simp [tuI], ?_, fun x hx => ?_⟩
  · rcases mxI_mem r z with h | h
    · rw [h]; exact List.mem_cons_self
    · exact List.mem_cons_of_mem _ h
  · rcases List.mem_cons.mp hx with rfl | hx
    · exact g1
    · exact g2 x hx
theorem doors8 {d : Int} (hd : d ∈ ([0, 1, 2, 3, 4, 5, 6, 7] : List Int)) : d ∈ ([0, 1, 2, 3, 4, 5] : List Int) ∨ d = 6 ∨ d = 7 := by
  simp at hd
  rcases hd with rfl | rfl | rfl | rfl | rfl | rfl | rfl | rfl <;> simp
theorem told_O {ns ms : List Int} {T : Int} (h : ns.length ≠ ms.length) {d : Int} (hd : d ∈ ([0, 1, 2, 3, 4, 5, 6, 7] : List Int)) : G__law_told [.int d, tuI ns, tuI ms, .int T] = .ok (pr "OtherPeople" (.int (if d = 7 then (ns.length : Int) else (ms.length : Int)))) [] := by
  have e1 : G_look_leads [tuI ns, tuI ms] = .exc "OtherPeople" "many" (.int ms.length) [] := look_leads_exc (bar_bad true true h)
  have e2 : G_look_leads [tuI ms, tuI ns] = .exc "OtherPeople" "many" (.int ns.length) [] := look_leads_exc (bar_bad true true (Ne.symm h))
  have l1 := tuI_len ns
  have l2 := tuI_len ms
  have hc : CS13.contains ("OtherPeople", "many") = true := by decide
  have h' : ¬ (ms.length : Int) = (ns.length : Int) := by omega
  rcases doors8 hd with hd' | rfl | rfl
  · have n7 : ¬ d = 7 := by rintro rfl; simp at hd'
    rw [if_neg n7]
    exact told_of (told_exc hc (.inl ⟨hd', dist_exc e1⟩)) (.inl ⟨rfl, rfl, rfl⟩)
  · exact told_of (told_exc hc (.inr (.inl ⟨rfl, fut_exc e1⟩))) (.inl ⟨rfl, rfl, rfl⟩)
  · exact told_of (told_exc hc (.inr (.inr ⟨rfl, past_exc2 l1 l2 h' e2⟩))) (.inl ⟨rfl, rfl, rfl⟩)
theorem told_B {ns ms : List Int} {T : Int} (hl : ns.length ≤ 100) (h : ns.length = ms.length) {k : Int} (hk : hdD (Lw ns ms) = .int k) {d : Int} (hd : d ∈ ([0, 1, 2, 3, 4, 5, 6, 7] : List Int)) : G__law_told [.int d, tuI ns, tuI ms, .int T] = .ok (pr "Barred" (.int k)) [] := by
  have eb : G_bar [tuI ns, tuI ms] = .ok (hdD (Lw ns ms)) [] := bar_ok true true hl h
  rw [hk] at eb
  have e1 := look_leads_bar eb
  have l1 := tuI_len ns
  have l2 := tuI_len ms
  rw [← h] at l2
  have hc : CS13.contains ("Barred", "person") = true := by decide
  rcases doors8 hd with hd' | rfl | rfl
  · exact told_of (told_exc hc (.inl ⟨hd', dist_exc e1⟩)) (.inr (.inr ⟨rfl, rfl, rfl⟩))
  · exact told_of (told_exc hc (.inr (.inl ⟨rfl, fut_exc e1⟩))) (.inr (.inr ⟨rfl, rfl, rfl⟩))
  · exact told_of (told_exc hc (.inr (.inr ⟨rfl, past_exc l1 l2 e1⟩))) (.inr (.inr ⟨rfl, rfl, rfl⟩))
theorem Lw_nil {ns ms : List Int} (hg : ∀ i : Nat, ns.getD i 0 ≤ ms.getD i 0) : Lw ns ms = [] := by
  unfold Lw
  rw [List.map_eq_nil_iff, List.filter_eq_nil_iff]
  intro a ha z
  have hz := List.mem_zipIdx_iff_getElem?.mp ha
  obtain ⟨hi, hv⟩ := List.getElem?_eq_some_iff.mp hz
  rw [List.getElem_zip] at hv
  rw [List.length_zip] at hi
  have := hg a.2
  rw [List.getD_eq_getElem?_getD, List.getD_eq_getElem?_getD, List.getElem?_eq_getElem (by omega), List.getElem?_eq_getElem (by omega)] at this
  simp at z this
  rw [← hv] at z
  simp at z
  omega
theorem told_F {ns ms : List Int} {T : Int} (hl : ns.length ≤ 100) (h : ns.length = ms.length) (hg : ∀ i : Nat, ns.getD i 0 ≤ ms.getD i 0) (hT : ∃ y ∈ ms, T ≤ y) : G__law_told [.int 6, tuI ns, tuI ms, .int T] = .ok (pr "NoFuture" (.int T)) [] := by
  have eb : G_bar [tuI ns, tuI ms] = .ok (hdD (Lw ns ms)) [] := bar_ok true true hl h
  rw [Lw_nil hg] at eb
  have e1 := look_leads_ok eb
  have hc : CS13.contains ("NoFuture", "limit") = true := by decide
  have lc : lcL (gNm 3) tYs (eCmp geD (eVar 3) (eVar 1)) [3] (ms.map .int) [some (tuI ns), some (.int T), some (tuI ms), none, none, none] [] = .ok ((ms.map fun y => decide (T ≤ y)).map .bool) [some (tuI ns), some (.int T), some (tuI ms), none, none, none] := by
    rw [List.map_map]
    exact lc_mapT PyData.int (fun y => .bool (decide (T ≤ y))) _ ms (by omega) fun y _ => ⟨[some (tuI ns), some (.int T), some (tuI ms), some (.int y), none, none], [some (tuI ns), some (.int T), some (tuI ms), some (.int y), none, none], by simp, by simp, by simp⟩
  have an : (ms.map fun y => decide (T ≤ y)).any id = true := by
    obtain ⟨y, hy, hl⟩ := hT
    rw [List.any_eq_true]
    exact ⟨true, List.mem_map.mpr ⟨y, hy, by simp [hl]⟩, rfl⟩
  have ad := vAny (ms.map fun y => decide (T ≤ y))
  rw [an] at ad
  have sq := tuI_seq ms
  have e2 : G_future_number [tuI ns, .int T, tuI ms] = .exc "NoFuture" "limit" (.int T) [] := by
    have nxX : NX (tuI ns) := inferInstance
    have nxY : NX (tuI ms) := inferInstance
    generalize tuI ns = X at *
    generalize tuI ms = Y at *
    generalize (ms.map fun y => decide (T ≤ y)).map PyData.bool = Bs at *
    generalize ms.map PyData.int = Ms at *
    simp [G_future_number, runP, sv_future_number, e1, sq, lc, ad]
  exact told_of (told_exc hc (.inr (.inl ⟨rfl, e2⟩))) (.inr (.inl ⟨rfl, rfl, rfl⟩))
def Lo (ns ms : List Int) : List PyData := if ns.length = ms.length then Lw ns ms else []
theorem zip_idx {ns ms : List Int} (h : ns.length = ms.length) : ∀ k : Nat, (ms.zipIdx k).map (fun a => PyData.tuple [.int (a.2 : Nat), .int a.1]) = ((ns.zip ms).zipIdx k).map fun a => PyData.tuple [.int (a.2 : Nat), .int a.1.2] := by
  induction ns generalizing ms with
  | nil =>
    intro k
    cases ms with
    | nil => rfl
    | cons => simp at h
  | cons x ns ih =>
    cases ms with
    | nil => simp at h
    | cons y ms =>
      intro k
      have := ih (ms := ms) (by simpa using h) (k + 1)
      simp only [List.zip_cons_cons, List.zipIdx_cons, List.map_cons]
      rw [this]
noncomputable abbrev loT : BD.Env → R Bool := (tAn (BD.tCmp eqD (eApp lenD (eCons (eVar 4) eNil)) (eApp lenD (eCons (eVar 1) eNil))) (BD.tCmp ltD (eVar 11) (eBin atD (eVar 1) (eVar 8))))
theorem lower_ok {ns ms : List Int} (hl : ns.length ≤ 100) (hl2 : ms.length ≤ 100) (o0 o2 o3 o5 o6 o7 o9 : Option PyData) :
    lcL (gTu (gsCons (gNm 8) (gsCons (gNm 11) gsNil))) loT (eVar 8) [8, 11] (enumL 0 (ms.map .int)) [o0, some (tuI ns), o2, o3, some (tuI ms), o5, o6, o7, none, o9, none, none] [] = .ok (Lo ns ms) [o0, some (tuI ns), o2, o3, some (tuI ms), o5, o6, o7, none, o9, none, none] := by
  have l1 := tuI_len ns
  have l2 := tuI_len ms
  unfold Lo
  by_cases h : ns.length = ms.length
  · rw [if_pos h, enum_zip, zip_idx h 0]
    rw [← h] at l2
    have nxY : NX (tuI ms) := inferInstance
    generalize tuI ms = Y at *
    have := lc_filT (g := gTu (gsCons (gNm 8) (gsCons (gNm 11) gsNil))) (t := loT) (el := eVar 8) (vs := [8, 11]) (fun a : (Int × Int) × Nat => PyData.tuple [.int (a.2 : Nat), .int a.1.2]) (fun a => decide (a.1.2 < a.1.1)) (fun a => PyData.int (a.2 : Nat)) [o0, some (tuI ns), o2, o3, some Y, o5, o6, o7, none, o9, none, none] ((ns.zip ms).zipIdx) (fun a ha => by
      obtain ⟨⟨x, y⟩, i⟩ := a
      have hz := List.mem_zipIdx_iff_getElem?.mp ha
      obtain ⟨hi, hv⟩ := List.getElem?_eq_some_iff.mp hz
      rw [List.getElem_zip] at hv
      rw [List.length_zip] at hi
      have a1 : atD (tuI ns) (.int (i : Nat)) = some (.int x) := by
        have hi' : i < ns.length := Nat.lt_of_lt_of_le hi (Nat.min_le_left _ _)
        have e : atD (tuI ns) (.int (i : Nat)) = some (.int ns[i]) := by
          rw [tuI_at, atS, List.getElem?_map, List.getElem?_eq_getElem hi']; rfl
        exact e.trans (congrArg (fun z : Int × Int => some (PyData.int z.1)) hv)
      have nxX : NX (tuI ns) := inferInstance
      generalize tuI ns = X at *
      exact ⟨[o0, some X, o2, o3, some Y, o5, o6, o7, some (.int (i : Nat)), o9, none, some (.int y)], [o0, some X, o2, o3, some Y, o5, o6, o7, some (.int (i : Nat)), o9, none, some (.int y)], by simp, by simp [l1, l2, a1], fun _ => ⟨[o0, some X, o2, o3, some Y, o5, o6, o7, some (.int (i : Nat)), o9, none, some (.int y)], by simp, by simp⟩, fun _ => by simp⟩) [] (by
      simp only [List.length_nil, List.length_zipIdx, List.length_zip]
      omega)
    simpa [Lw] using this
  · rw [if_neg h, enum_zip]
    have h' : ¬ (ms.length : Int) = (ns.length : Int) := by omega
    have hb : ((ms.length : Int) == (ns.length : Int)) = false := by simpa using h'
    have nxY : NX (tuI ms) := inferInstance
    generalize tuI ms = Y at *
    have nxX : NX (tuI ns) := inferInstance
    generalize tuI ns = X at *
    have := lc_filT (g := gTu (gsCons (gNm 8) (gsCons (gNm 11) gsNil))) (t := loT) (el := eVar 8) (vs := [8, 11]) (fun a : Int × Nat => PyData.tuple [.int (a.2 : Nat), .int a.1]) (fun a => false) (fun a => PyData.int (a.2 : Nat)) [o0, some X, o2, o3, some Y, o5, o6, o7, none, o9, none, none] (ms.zipIdx) (fun a ha => by
      generalize (ms.length : Int) = p at *
      generalize (ns.length : Int) = q at *
      exact ⟨[o0, some X, o2, o3, some Y, o5, o6, o7, some (.int (a.2 : Nat)), o9, none, some (.int a.1)], [o0, some X, o2, o3, some Y, o5, o6, o7, some (.int (a.2 : Nat)), o9, none, some (.int a.1)], by simp, by simp [l1, l2, h', hb], fun z => by simp at z, fun _ => by simp⟩) [] (by
      simp only [List.length_nil, List.length_zipIdx]
      omega)
    have fl : ms.zipIdx.filter (fun _ => false) = [] := List.filter_eq_nil_iff.mpr (by simp)
    rw [fl] at this
    simpa using this
noncomputable abbrev due13 : Sv := (sIf (BD.tCmp neD (eApp lenD (eCons (eVar 4) eNil)) (eApp lenD (eCons (eVar 1) eNil)))
  (sSeq (sAsg 9 (eBin addD (eBin mulD (eApp fLst (eCons (eApp fTup (eCons (eC (.str "OtherPeople")) (eCons (eApp lenD (eCons (eVar 4) eNil)) eNil))) eNil)) (eC (.int 7))) (eApp fLst (eCons (eApp fTup (eCons (eC (.str "OtherPeople")) (eCons (eApp lenD (eCons (eVar 1) eNil)) eNil))) eNil))))
  sNil)
  (sSeq (sIf (BD.tCmp neD (eVar 6) (eApp fLst eNil))
  (sSeq (sAsg 9 (eBin mulD (eApp fLst (eCons (eApp fTup (eCons (eC (.str "Barred")) (eCons (eBin atD (eVar 6) (eC (.int 0))) eNil))) eNil)) (eC (.int 8))))
  sNil)
  sNil)
  sNil))
/-- what is due is told -/
theorem due13_ok {ns ms : List Int} (hl : ns.length ≤ 100) (hl2 : ms.length ≤ 100) (T : Int) (o0 o2 o3 o5 o7 o8 : Option PyData) :
    due13 [o0, some (tuI ns), o2, o3, some (tuI ms), o5, some (.list (Lo ns ms)), o7, o8, some .none, none, none] = .nx [o0, some (tuI ns), o2, o3, some (tuI ms), o5, some (.list (Lo ns ms)), o7, o8, some .none, none, none] ∨
    ∃ D : List PyData, due13 [o0, some (tuI ns), o2, o3, some (tuI ms), o5, some (.list (Lo ns ms)), o7, o8, some .none, none, none] = .nx [o0, some (tuI ns), o2, o3, some (tuI ms), o5, some (.list (Lo ns ms)), o7, o8, some (.list D), none, none] ∧ okd 11 (.list D) ∧ ∃ f : Int → PyData, D = ([0, 1, 2, 3, 4, 5, 6, 7] : List Int).map f ∧ ∀ d ∈ ([0, 1, 2, 3, 4, 5, 6, 7] : List Int), G__law_told [.int d, tuI ns, tuI ms, .int T] = .ok (f d) [] := by
  have l1 := tuI_len ns
  have l2 := tuI_len ms
  by_cases h : ns.length = ms.length
  · have hL : Lo ns ms = Lw ns ms := if_pos h
    have hB := fun k hk d hd => told_B (T := T) hl h (k := k) hk (d := d) hd
    rw [hL]
    rw [← h] at l2
    cases e : Lw ns ms with
    | nil =>
      left
      have ne : neD (.list []) (.list []) = some false := rfl
      have nxY : NX (tuI ms) := inferInstance
      generalize tuI ms = Y at *
      have nxX : NX (tuI ns) := inferInstance
      generalize tuI ns = X at *
      simp [l1, l2, ne]
    | cons d r =>
      right
      obtain ⟨k, rfl⟩ := Lw_int ns ms d (e ▸ List.mem_cons_self)
      rw [e] at hB
      have hB := hB k rfl
      have ne : neD (.list (.int k :: r)) (.list []) = some true := by simp [neD, PyData.eqv, PyData.eqvAll, PyData.depth, PyData.depthAll]
      have a0 : atD (.list (.int k :: r)) (.int 0) = some (.int k) := at_zero _ _
      have r8 : mulD (.list [pr "Barred" (.int k)]) (.int 8) = some (.list (List.replicate 8 (pr "Barred" (.int k)))) := rep_ok (pr "Barred" (.int k)) 8 (by decide)
      have pe : PyData.tuple [.str "Barred", .int k] = pr "Barred" (.int k) := rfl
      refine ⟨List.replicate 8 (pr "Barred" (.int k)), ?_, ⟨by simp, fun x hx => by rw [(List.mem_replicate.mp hx).2]; exact okd_pr _ _ 9⟩, fun _ => pr "Barred" (.int k), rfl, fun d hd => hB d hd⟩
      have nxY : NX (tuI ms) := inferInstance
      generalize tuI ms = Y at *
      have nxX : NX (tuI ns) := inferInstance
      generalize tuI ns = X at *
      have nxL : NX (PyData.list (.int k :: r)) := inferInstance
      generalize PyData.list (.int k :: r) = L at *
      generalize List.replicate 8 (pr "Barred" (.int k)) = R at *
      simp [l1, l2, ne, a0, pe, r8]
  · right
    have h' : ¬ (ms.length : Int) = (ns.length : Int) := by omega
    have hb : ((ms.length : Int) == (ns.length : Int)) = false := by simpa using h'
    have r7 : mulD (.list [pr "OtherPeople" (.int (ms.length : Nat))]) (.int 7) = some (.list (List.replicate 7 (pr "OtherPeople" (.int (ms.length : Nat))))) := rep_ok (pr "OtherPeople" (.int (ms.length : Nat))) 7 (by decide)
    have pe : ∀ i : Int, PyData.tuple [.str "OtherPeople", .int i] = pr "OtherPeople" (.int i) := fun _ => rfl
    have hO := fun d hd => told_O (T := T) h (d := d) hd
    refine ⟨List.replicate 7 (pr "OtherPeople" (.int (ms.length : Nat))) ++ [pr "OtherPeople" (.int (ns.length : Nat))], ?_, ⟨by simp, fun x hx => ?_⟩, fun d => pr "OtherPeople" (.int (if d = 7 then (ns.length : Int) else (ms.length : Int))), rfl, fun d hd => hO d hd⟩
    · clear hO
      have nxY : NX (tuI ms) := inferInstance
      generalize tuI ms = Y at *
      have nxX : NX (tuI ns) := inferInstance
      generalize tuI ns = X at *
      have rl : (List.replicate 7 (pr "OtherPeople" (.int (ms.length : Nat)))).length = 7 := by simp
      generalize List.replicate 7 (pr "OtherPeople" (.int (ms.length : Nat))) = R at *
      generalize (ms.length : Int) = p at *
      generalize (ns.length : Int) = q at *
      simp [l1, l2, h', hb, pe, r7, rl]
    · rcases List.mem_append.mp hx with hx | hx
      · rw [(List.mem_replicate.mp hx).2]; exact okd_pr _ _ 9
      · rw [List.mem_singleton.mp hx]; exact okd_pr _ _ 9
noncomputable abbrev item13 : Sv := (sSeq (sAsg 6 (eLc [8, 11] (gTu (gsCons (gNm 8) (gsCons (gNm 11) gsNil))) (iEn (eVar 4)) (tAn (BD.tCmp eqD (eApp lenD (eCons (eVar 4) eNil)) (eApp lenD (eCons (eVar 1) eNil))) (BD.tCmp ltD (eVar 11) (eBin atD (eVar 1) (eVar 8)))) (eVar 8)))
  (sSeq (sUnp (gTu (gsCons (gNm 5) (gsCons (gNm 9) gsNil))) (eApp fTup (eCons (eCallB 0 2 G__law_take (eCons (eBin addD (eApp (bestD mxI) (eCons (eBin addD (eBin addD (eVar 4) (eVar 1)) (eApp fTup (eCons (eC (.int 0)) eNil))) eNil)) (eC (.int 3))) eNil)) (eCons (eC .none) eNil))))
  (sSeq due13
  (sSeq (sAsg 7 (eLc [10] (gNm 10) (iR1 (eBin mulD (eC (.int 8)) (eApp intD (eCons (eCmp ntD (eVar 9) (eC .none)) eNil)))) tYs (eCallP 4 none G__law_told (eCons (eVar 10) (eCons (eVar 1) (eCons (eVar 4) (eCons (eVar 5) eNil)))))))
  (sSeq (sIf (tAn (BD.tCmp ntD (eVar 9) (eC .none)) (tNo (tTru (eCallP 2 none G__law_same (eCons (eVar 7) (eCons (eVar 9) eNil))))))
  (sSeq (sRet (eC (.bool false)))
  sNil)
  sNil)
  sNil)))))
theorem item13_ok (m : Int) (bc : List PyData) {ns ms : List Int} (hl : ns.length ≤ 50) (hl2 : ms.length ≤ 50) (h1 : ∀ x ∈ ns, x < 2 ^ 190) (h2 : ∀ x ∈ ms, x < 2 ^ 190) (o2 o3 o5 o6 o7 o8 o9 : Option PyData) (hb : Bx m bc) (hm : m + 4095 ≤ 2 ^ 40) :
    ∃ bc' p5 p6 p7 p9, item13 [some (.list bc), some (tuI ns), o2, o3, some (tuI ms), o5, o6, o7, o8, o9, none, none] = .nx [some (.list bc'), some (tuI ns), o2, o3, some (tuI ms), p5, p6, p7, o8, p9, none, none] ∧ Bx (m + 4095) bc' := by
  obtain ⟨M, eM, M1, M2⟩ := max_tu (ms ++ ns) 0
  have M0 := M2 0 (by simp)
  have M3 : M < 2 ^ 190 := by
    rcases List.mem_append.mp M1 with h | h
    · rcases List.mem_append.mp h with h | h
      · exact h2 M h
      · exact h1 M h
    · have := List.mem_singleton.mp h; omega
  obtain ⟨T, b1, e1, T0, T1, hb1⟩ := take_ok m (M + 3) bc hb (by omega) (by omega) (by omega)
  have l1 := hb1.lf
  have ad : addD (tuI ms) (tuI ns) = some (tuI (ms ++ ns)) := by
    unfold tuI; rw [vAddT, if_pos (by simp; omega), ← List.map_append]
  have ad2 : addD (tuI (ms ++ ns)) (.tuple [.int 0]) = some (tuI (ms ++ ns ++ [0])) := by
    unfold tuI; rw [vAddT, if_pos (by simp; omega)]; simp
  have s6 : (eLc [8, 11] (gTu (gsCons (gNm 8) (gsCons (gNm 11) gsNil))) (iEn (eVar 4)) loT (eVar 8)) [some (.list bc), some (tuI ns), o2, o3, some (tuI ms), o5, o6, o7, o8, o9, none, none] = .ok (.list (Lo ns ms)) [some (.list bc), some (tuI ns), o2, o3, some (tuI ms), o5, o6, o7, o8, o9, none, none] := by
    have sq := tuI_seq ms
    refine eLc_ (δ1 := [some (.list bc), some (tuI ns), o2, o3, some (tuI ms), o5, o6, o7, o8, o9, none, none]) (δ2 := [some (.list bc), some (tuI ns), o2, o3, some (tuI ms), o5, o6, o7, none, o9, none, none]) (ds := enumL 0 (ms.map .int)) ?_ (lower_ok (by omega) (by omega) _ _ _ _ _ _ _) (by simp)
    generalize ms.map PyData.int = V at *
    simp [sq]
  have s5 : (sUnp (gTu (gsCons (gNm 5) (gsCons (gNm 9) gsNil))) (eApp fTup (eCons (eCallB 0 2 G__law_take (eCons (eBin addD (eApp (bestD mxI) (eCons (eBin addD (eBin addD (eVar 4) (eVar 1)) (eApp fTup (eCons (eC (.int 0)) eNil))) eNil)) (eC (.int 3))) eNil)) (eCons (eC .none) eNil)))) [some (.list bc), some (tuI ns), o2, o3, some (tuI ms), o5, some (.list (Lo ns ms)), o7, o8, o9, none, none] = .nx [some (.list b1), some (tuI ns), o2, o3, some (tuI ms), some (.int T), some (.list (Lo ns ms)), o7, o8, some .none, none, none] := by
    have nxY : NX (tuI ms) := inferInstance
    have nxZ : NX (tuI (ms ++ ns)) := inferInstance
    have nxW : NX (tuI (ms ++ ns ++ [0])) := inferInstance
    have nxX : NX (tuI ns) := inferInstance
    generalize tuI (ms ++ ns ++ [0]) = W at *
    generalize tuI (ms ++ ns) = Z at *
    generalize tuI ms = Y at *
    generalize tuI ns = X at *
    generalize Lo ns ms = L at *
    simp [ad, ad2, eM, e1, l1]
  rcases due13_ok (ns := ns) (ms := ms) (by omega) (by omega) T (some (.list b1)) o2 o3 (some (.int T)) o7 o8 with e | ⟨D, e, kd, f, hD, hf⟩
  · refine ⟨b1, some (.int T), some (.list (Lo ns ms)), some (.list []), some .none, ?_, hb1⟩
    refine (sq_nx (asg_ (i := 6) s6)).trans ((sq_nx s5).trans ((sq_nx e).trans ?_))
    generalize Lo ns ms = L at *
    have c0 : mulC 8 0 = true := by decide
    have r0 : inR 0 = true := by decide
    have rl : rngL 0 0 = [] := rfl
    simp [c0, r0, rl, lcL]
  · refine ⟨b1, some (.int T), some (.list (Lo ns ms)), some (.list D), some (.list D), ?_, hb1⟩
    refine (sq_nx (asg_ (i := 6) s6)).trans ((sq_nx s5).trans ((sq_nx e).trans ?_))
    have sm := same_ok kd
    have lc : lcL (gNm 10) tYs (eCallP 4 none G__law_told (eCons (eVar 10) (eCons (eVar 1) (eCons (eVar 4) (eCons (eVar 5) eNil))))) [10] (rngL 0 8) [some (.list b1), some (tuI ns), o2, o3, some (tuI ms), some (.int T), some (.list (Lo ns ms)), o7, o8, some (.list D), none, none] [] = .ok D [some (.list b1), some (tuI ns), o2, o3, some (tuI ms), some (.int T), some (.list (Lo ns ms)), o7, o8, some (.list D), none, none] := by
      have rg : rngL 0 8 = ([0, 1, 2, 3, 4, 5, 6, 7] : List Int).map .int := rfl
      rw [rg]
      have hD' := hD
      generalize hO : ([0, 1, 2, 3, 4, 5, 6, 7] : List Int) = O at *
      have hOl : O.length = 8 := by rw [← hO]; rfl
      have nxY : NX (tuI ms) := inferInstance
      have nxX : NX (tuI ns) := inferInstance
      generalize tuI ms = Y at *
      generalize tuI ns = X at *
      generalize hLL : some (PyData.list (Lo ns ms)) = LL
      generalize hDD : some (PyData.list D) = DD
      rw [hD']
      exact lc_mapT PyData.int f _ O (by omega) fun d hd => ⟨[some (.list b1), some X, o2, o3, some Y, some (.int T), LL, o7, o8, DD, some (.int d), none], [some (.list b1), some X, o2, o3, some Y, some (.int T), LL, o7, o8, DD, some (.int d), none], by simp, by simp [hf d hd], by simp⟩
    clear hf hD
    generalize Lo ns ms = L at *
    generalize tuI ms = Y at *
    generalize tuI ns = X at *
    have c0 : mulC 8 1 = true := by decide
    have r0 : inR 8 = true := by decide
    simp [c0, r0, lc, sm]
theorem cut1 {ns : List Int} : slD (tuI ns) (some 1) none = some (tuI (ns.drop 1)) := by
  unfold tuI
  rw [v_slT, cut_one, List.map_drop]
def Gd (ms : List Int) : Prop := ms.length ≤ 50 ∧ ∀ x ∈ ms, x < 2 ^ 190
noncomputable abbrev turn13 : Sv := (sSeq (sUnp (gTu (gsCons (gNm 4) (gsCons (gNm 8) gsNil))) (eApp fTup (eCons (eCallB 0 3 G__law_rise (eCons (eVar 1) (eCons (eC (.int 6)) eNil))) (eCons (eCallB 0 2 G__law_take (eCons (eApp lenD (eCons (eVar 1) eNil)) eNil)) eNil))))
  (sSeq (sAsg 6 (eBin subD (eBin subD (eBin atD (eVar 1) (eVar 8)) (eC (.int 1))) (eCallB 0 2 G__law_take (eCons (eC (.int 3)) eNil))))
  (sSeq (sIf (tAn (BD.tCmp geD (eVar 6) (eC (.int 0))) (BD.tCmp niD (eVar 6) (eVar 4)))
  (sSeq (sExpr (eMut 2 fAppend (eCons (eCallP 3 none G__law_put (eCons (eVar 4) (eCons (eVar 8) (eCons (eVar 6) eNil)))) eNil)))
  sNil)
  sNil)
  sNil)))
theorem turn13_ok (m : Int) (bc : List PyData) {ns : List Int} {M : Int} (hl : ns.length ≤ 20) (hp : 0 < ns.length) (nd : ns.Nodup) (hB : Bw M ns) (hM : M < 2 ^ 180) (Ls : List (List Int)) (hLs : Ls.length ≤ 100) (hg : ∀ q ∈ Ls, Gd q) (o3 o4 o5 o6 o7 o8 o9 : Option PyData) (hb : Bx m bc) (hm : m + 1000000 ≤ 2 ^ 38) :
    ∃ (bc' : List PyData) (Ls' : List (List Int)) (p4 p6 p8 : Option PyData), turn13 [some (.list bc), some (tuI ns), some (.list (Ls.map tuI)), o3, o4, o5, o6, o7, o8, o9, none, none] = .nx [some (.list bc'), some (tuI ns), some (.list (Ls'.map tuI)), o3, p4, o5, p6, o7, p8, o9, none, none] ∧ Ls'.length ≤ Ls.length + 1 ∧ (∀ q ∈ Ls', Gd q) ∧ Bx (m + 1000000) bc' := by
  obtain ⟨ms, b1, e1, k1, k2, k3, k4, hb1⟩ := rise_ok m 6 M bc hb (by omega) ns (by omega) hB nd (by decide) (by decide)
  have l1 := hb1.lf
  obtain ⟨u, b2, e2, u0, u1, hb2⟩ := take_ok _ (ns.length : Nat) b1 hb1 (by omega) (by omega) (by omega)
  have l2 := hb2.lf
  obtain ⟨v, b3, e3, v0, v1, hb3⟩ := take_ok _ 3 b2 hb2 (by omega) (by decide) (by decide)
  have l3 := hb3.lf
  obtain ⟨i, rfl⟩ : ∃ i : Nat, u = (i : Int) := ⟨u.toNat, by omega⟩
  have hi : i < ns.length := by omega
  have a1 : atD (tuI ns) (.int (i : Nat)) = some (.int ns[i]) := by
    rw [tuI_at, atS, List.getElem?_map, List.getElem?_eq_getElem hi]; rfl
  have ln := tuI_len ns
  have pt := put_ok (ns := ms) (i := i) (ns[i] - 1 - v) (by omega) (by omega)
  have inn := in_tuI (ns[i] - 1 - v) ms
  have hni := hB _ (List.getElem_mem hi)
  have gm : Gd (ms.set i (ns[i] - 1 - v)) := ⟨by simp; omega, fun x hx => by
    rcases List.mem_or_eq_of_mem_set hx with h | h
    · have := k2 x h; omega
    · omega⟩
  generalize ns[i] = c at *
  have nxX : NX (tuI ns) := inferInstance
  have nxY : NX (tuI ms) := inferInstance
  have nxZ : NX (tuI (ms.set i (c - 1 - v))) := inferInstance
  have hll : (Ls.map tuI).length = Ls.length := by simp
  have mp : (Ls ++ [ms.set i (c - 1 - v)]).map tuI = Ls.map tuI ++ [tuI (ms.set i (c - 1 - v))] := by simp
  generalize hZ : tuI (ms.set i (c - 1 - v)) = Z at *
  generalize tuI ms = Y at *
  generalize tuI ns = X at *
  by_cases h : 0 ≤ c - 1 - v ∧ c - 1 - v ∉ ms
  · refine ⟨b3, Ls ++ [ms.set i (c - 1 - v)], some Y, some (.int (c - 1 - v)), some (.int (i : Nat)), ?_, by simp, fun q hq => ?_, hb3.mono (by omega)⟩
    · rw [mp]
      generalize Ls.map tuI = V at *
      have hv : V.length < 16777216 := by omega
      generalize ((i : Nat) : Int) = ii at *
      generalize hcv : c - 1 - v = w at *
      have h1 := h.1
      have h2 : decide (w ∈ ms) = false := by simp [h.2]
      have ni : niD (.int w) Y = some true := by simp [niD, inn, h2]
      simp [e1, l1, ln, e2, l2, a1, e3, l3, hcv, h1, ni, pt, hv]
    · rcases List.mem_append.mp hq with hq | hq
      · exact hg q hq
      · rw [List.mem_singleton.mp hq]; exact gm
  · refine ⟨b3, Ls, some Y, some (.int (c - 1 - v)), some (.int (i : Nat)), ?_, by omega, hg, hb3.mono (by omega)⟩
    generalize Ls.map tuI = V at *
    generalize ((i : Nat) : Int) = ii at *
    generalize hcv : c - 1 - v = w at *
    by_cases h1 : 0 ≤ w
    · have h2 : decide (w ∈ ms) = true := by
        by_cases z : w ∈ ms
        · simp [z]
        · exact absurd ⟨h1, z⟩ h
      have ni : niD (.int w) Y = some false := by simp [niD, inn, h2]
      simp [e1, l1, ln, e2, l2, a1, e3, l3, hcv, h1, ni]
    · simp [e1, l1, ln, e2, l2, a1, e3, l3, hcv, h1]
noncomputable abbrev last13 : Sv := (sSeq (sIf (tAn (BD.tCmp neD (eVar 4) (eApp fTup eNil)) (tNo (tTru (eCallP 2 none G__law_same (eCons (eCallP 4 none G__law_told (eCons (eC (.int 6)) (eCons (eVar 1) (eCons (eVar 4) (eCons (eVar 5) eNil))))) (eCons (eApp fTup (eCons (eC (.str "NoFuture")) (eCons (eVar 5) eNil))) eNil))))))
  (sSeq (sRet (eC (.bool false)))
  sNil)
  sNil)
  sNil)
theorem lasts13 {ns ms : List Int} (hl : ns.length ≤ 100) (h : ns.length = ms.length) (hg : ∀ i : Nat, ns.getD i 0 ≤ ms.getD i 0) (ds : List PyData) (hd : ∀ d ∈ ds, ∃ T : Int, d = .int T ∧ (ms ≠ [] → ∃ y ∈ ms, T ≤ y)) (o0 o2 o3 o5 o6 o7 o8 o9 : Option PyData) :
    ∃ p5, forL (gNm 5) last13 ds [o0, some (tuI ns), o2, o3, some (tuI ms), o5, o6, o7, o8, o9, none, none] = .nx [o0, some (tuI ns), o2, o3, some (tuI ms), p5, o6, o7, o8, o9, none, none] := by
  obtain ⟨δ', e, _, p5, rfl⟩ := for_ind (g := gNm 5) (body := last13)
    (fun ds δ => (∀ d ∈ ds, ∃ T : Int, d = .int T ∧ (ms ≠ [] → ∃ y ∈ ms, T ≤ y)) ∧ ∃ p5, δ = [o0, some (tuI ns), o2, o3, some (tuI ms), p5, o6, o7, o8, o9, none, none]) (by
      rintro d ds δ ⟨hd, p5, rfl⟩
      obtain ⟨T, rfl, hT⟩ := hd d List.mem_cons_self
      refine ⟨_, [o0, some (tuI ns), o2, o3, some (tuI ms), some (.int T), o6, o7, o8, o9, none, none], rfl, ?_, fun d hd' => hd d (List.mem_cons_of_mem _ hd'), _, rfl⟩
      have ne := ne_empty (ms.map PyData.int)
      by_cases hm : ms = []
      · subst hm
        have ne : neD (tuI []) (.tuple []) = some false := ne
        have nxX : NX (tuI ns) := inferInstance
        generalize tuI ns = X at *
        have nxY : NX (tuI []) := inferInstance
        generalize tuI [] = Y at *
        simp [ne]
      · have z : ms.isEmpty = false := by simpa using hm
        have ne : neD (tuI ms) (.tuple []) = some true := by simpa [tuI, z] using ne
        have f1 := told_F hl h hg (hT hm)
        have sm : G__law_same [pr "NoFuture" (.int T), pr "NoFuture" (.int T)] = .ok (.bool true) [] := same_ok (okd_pr _ _ 10)
        have pe : PyData.tuple [.str "NoFuture", .int T] = pr "NoFuture" (.int T) := rfl
        have nxX : NX (tuI ns) := inferInstance
        have nxY : NX (tuI ms) := inferInstance
        generalize tuI ns = X at *
        generalize tuI ms = Y at *
        simp [ne, f1, pe, sm]) ds _ ⟨hd, o5, rfl⟩
  exact ⟨p5, e⟩
theorem right_ok (m : Int) (bc : List PyData) (hb : Bx m bc) (hm : m ≤ 2 ^ 36) : ∃ bc', G__law_right bc [] = .ok (.bool true) bc' ∧ Bx (m + 100000000) bc' := by
  obtain ⟨w, b0, e0, hw, hb0⟩ := of_ok m bc [.int 4, .int 12, .int 100000000000000000000000000000000000000] hb (by omega) (by simp) (by simp)
  have l0 := hb0.lf
  obtain ⟨w, rfl, hw1, hw2⟩ : ∃ z : Int, w = .int z ∧ 0 ≤ z ∧ z ≤ 10 ^ 38 := by
    simp at hw
    rcases hw with rfl | rfl | rfl
    · exact ⟨_, rfl, by omega, by omega⟩
    · exact ⟨_, rfl, by omega, by omega⟩
    · exact ⟨_, rfl, by omega, by omega⟩
  obtain ⟨ns, b1, e1, n1, n2, n3, hb1⟩ := random_bench_b 13 _ 10 w b0 hb0 (by omega) (by decide) (by decide) (by decide) hw1 (by omega)
  have l1 := hb1.lf
  have nl : ns.length ≤ 10 := by omega
  have nB : Bw (10 ^ 38 + 1000) ns := fun x hx => ⟨(n2 x hx).1, by have := (n2 x hx).2; omega⟩
  obtain ⟨rs, b2, e2, r1, r2, r3, hb2⟩ := random_bench_b 7 _ 4 6 b1 hb1 (by omega) (by decide) (by decide) (by decide) (by decide) (by decide)
  have l2 := hb2.lf
  obtain ⟨qs, b3, e3, qp, hb3⟩ := strewn_ok _ b2 hb2 true ns (by omega) (by omega)
  have l3 := hb3.lf
  have e3 : G__law_strewn b2 [tuI ns] = .ok (.list (qs.map .int)) b3 := e3
  obtain ⟨M, eM, M1, M2⟩ := max_tu ns 0
  have Mb : M ≤ 10 ^ 38 + 1000 := by
    rcases List.mem_append.mp M1 with h | h
    · exact (nB M h).2
    · have := List.mem_singleton.mp h; omega
  have a0 : addD (tuI ns) (.tuple [.int 0]) = some (tuI (ns ++ [0])) := by unfold tuI; rw [vAddT, if_pos (by simp; omega)]; simp
  have a1 : addD (tuI ns) (.tuple [.int (M + 1)]) = some (tuI (ns ++ [M + 1])) := by unfold tuI; rw [vAddT, if_pos (by simp; omega)]; simp
  have sl := cut1 (ns := ns)
  have tq : tupD [.list (qs.map .int)] = some (tuI qs) := rfl
  have emp : PyData.tuple [] = tuI [] := rfl
  have gM : (10 : Int) ^ 38 + 1001 < 2 ^ 190 := by decide
  have gns : Gd ns := ⟨by omega, fun x hx => by have := (nB x hx).2; omega⟩
  have s1 : (eCallB 0 3 G__law_random_bench (eCons (eC (.int 10)) (eCons (eCallB 0 2 G__law_of (eCons (eApp fLst (eCons (eC (.int 4)) (eCons (eC (.int 12)) (eCons (eBin powD (eC (.int 10)) (eC (.int 38))) eNil)))) eNil)) eNil))) (env0 12 [.list bc]) = .ok (tuI ns) [some (.list b1), none, none, none, none, none, none, none, none, none, none, none] := by
    have p38 : powC 10 38 = true := by decide
    simp [p38, e0, l0, e1, l1]
  have s2 : (eAppF fId (eCons (eBin addD (eVar 1) (eApp fTup (eCons (eBin addD (eApp (bestD mxI) (eCons (eBin addD (eVar 1) (eApp fTup (eCons (eC (.int 0)) eNil))) eNil)) (eC (.int 1))) eNil))) (eCons (eSl (eVar 1) (ePart (eC (.int 1))) eNoPart) (eCons (eCallB 0 3 G__law_random_bench (eCons (eC (.int 4)) (eCons (eC (.int 6)) eNil))) (eCons (eApp fTup eNil) eNil))))) [some (.list b1), some (tuI ns), none, none, none, none, none, none, none, none, none, none] = .ok (.list (([ns ++ [M + 1], ns.drop 1, rs, []] : List (List Int)).map tuI)) [some (.list b2), some (tuI ns), none, none, none, none, none, none, none, none, none, none] := by
    have nxX : NX (tuI ns) := inferInstance
    have nxW : NX (tuI (ns ++ [0])) := inferInstance
    simp only [List.map_cons, List.map_nil]
    generalize tuI (ns ++ [0]) = W at *
    generalize tuI (ns ++ [M + 1]) = V at *
    generalize tuI (ns.drop 1) = D at *
    generalize tuI ns = X at *
    simp [a0, eM, a1, sl, e2, l2, emp]
  have s3 : (sExpr (eMut 2 fAppend (eCons (eApp tupD (eCons (eCallB 0 2 G__law_strewn (eCons (eVar 1) eNil)) eNil)) eNil))) [some (.list b2), some (tuI ns), some (.list (([ns ++ [M + 1], ns.drop 1, rs, []] : List (List Int)).map tuI)), none, none, none, none, none, none, none, none, none] = .nx [some (.list b3), some (tuI ns), some (.list (([ns ++ [M + 1], ns.drop 1, rs, [], qs] : List (List Int)).map tuI)), none, none, none, none, none, none, none, none, none] := by
    have nxX : NX (tuI ns) := inferInstance
    simp only [List.map_cons, List.map_nil]
    generalize qs.map PyData.int = Q at *
    generalize tuI (ns ++ [M + 1]) = V at *
    generalize tuI (ns.drop 1) = D at *
    generalize tuI ns = X at *
    simp [e3, l3, tq]
  have g0 : ∀ q ∈ ([ns ++ [M + 1], ns.drop 1, rs, [], qs] : List (List Int)), Gd q := fun q hq => by
    simp at hq
    rcases hq with rfl | rfl | rfl | rfl | rfl
    · exact ⟨by simp; omega, fun x hx => by
        rcases List.mem_append.mp hx with h | h
        · exact gns.2 x h
        · have := List.mem_singleton.mp h; omega⟩
    · exact ⟨by simp; omega, fun x hx => gns.2 x (List.mem_of_mem_tail hx)⟩
    · exact ⟨by omega, fun x hx => by have := (r2 x hx).2; omega⟩
    · exact ⟨by simp, fun x hx => by simp at hx⟩
    · exact ⟨by rw [qp.length_eq]; omega, fun x hx => gns.2 x (qp.mem_iff.mp hx)⟩
  -- lower ones
  obtain ⟨b4, Ls, p4, p3, p6, p8, e4, hL, hg, hb4⟩ : ∃ (b4 : List PyData) (Ls : List (List Int)) (p4 p3 p6 p8 : Option PyData), (sFor (gNm 3) (iR1 (eBin mulD (eC (.int 2)) (eApp intD (eCons (eCmp neD (eVar 1) (eApp fTup eNil)) eNil)))) turn13) [some (.list b3), some (tuI ns), some (.list (([ns ++ [M + 1], ns.drop 1, rs, [], qs] : List (List Int)).map tuI)), none, none, none, none, none, none, none, none, none] = .nx [some (.list b4), some (tuI ns), some (.list (Ls.map tuI)), p3, p4, none, p6, none, p8, none, none, none] ∧ Ls.length ≤ 7 ∧ (∀ q ∈ Ls, Gd q) ∧ Bx (m + 20000000) b4 := by
    have ne := ne_empty (ns.map PyData.int)
    generalize hL0 : ([ns ++ [M + 1], ns.drop 1, rs, [], qs] : List (List Int)) = L0 at *
    have hL5 : L0.length = 5 := by rw [← hL0]; rfl
    by_cases hn : ns = []
    · subst hn
      have ne : neD (tuI []) (.tuple []) = some false := ne
      have c0 : mulC 2 0 = true := by decide
      have r0 : inR 0 = true := by decide
      have rl : rngL 0 0 = [] := rfl
      refine ⟨b3, L0, none, none, none, none, ?_, by omega, g0, hb3.mono (by simp; omega)⟩
      have nxX : NX (tuI []) := inferInstance
      generalize tuI [] = X at *
      refine for_ (δ1 := [some (.list b3), some X, some (.list (L0.map tuI)), none, none, none, none, none, none, none, none, none]) (ds := rngL 0 0) (iR1_ (by simp [ne, c0]) r0) (by rw [rl]; rfl)
    · have hp : 0 < ns.length := List.length_pos_iff.mpr hn
      have z : ns.isEmpty = false := by simpa using hn
      have ne : neD (tuI ns) (.tuple []) = some true := by simpa [tuI, z] using ne
      have c0 : mulC 2 1 = true := by decide
      have r0 : inR 2 = true := by decide
      obtain ⟨δ', e, j, b4, Ls, q3, q4, q6, q8, rfl, hj, hl', hg', hb4⟩ := for_ind (g := gNm 3) (body := turn13)
        (fun ds δ => ∃ (j : Nat) (b4 : List PyData) (Ls : List (List Int)) (q3 q4 q6 q8 : Option PyData), δ = [some (.list b4), some (tuI ns), some (.list (Ls.map tuI)), q3, q4, none, q6, none, q8, none, none, none] ∧ j + ds.length = 2 ∧ Ls.length ≤ 5 + j ∧ (∀ q ∈ Ls, Gd q) ∧ Bx (m + 10000000 + 1000000 * j) b4) (by
          rintro d ds δ ⟨j, b4, Ls, q3, q4, q6, q8, rfl, hj, hl', hg', hb4⟩
          have hj : j + (ds.length + 1) = 2 := hj
          obtain ⟨b5, Ls', r4, r6, r8, e, t1, t2, t3⟩ := turn13_ok _ b4 (ns := ns) (by omega) hp n3 nB (by decide) Ls (by omega) hg' (some d) q4 none q6 none q8 none hb4 (by omega)
          exact ⟨_, _, rfl, e, j + 1, b5, Ls', some d, r4, r6, r8, rfl, by omega, by omega, t2, t3.mono (by omega)⟩) (rngL 0 2) [some (.list b3), some (tuI ns), some (.list (L0.map tuI)), none, none, none, none, none, none, none, none, none] ⟨0, b3, L0, none, none, none, none, rfl, rfl, by omega, g0, hb3.mono (by omega)⟩
      have hj : j = 2 := hj
      refine ⟨b4, Ls, q4, q3, q6, q8, ?_, by omega, hg', hb4.mono (by omega)⟩
      refine for_ (δ1 := [some (.list b3), some (tuI ns), some (.list (L0.map tuI)), none, none, none, none, none, none, none, none, none]) (ds := rngL 0 2) ?_ e
      have nxX : NX (tuI ns) := inferInstance
      clear e
      generalize tuI ns = X at *
      exact iR1_ (by simp [ne, c0]) r0
  -- the items
  obtain ⟨b5, q4, q5, q6, q7, q9, e5, hb5⟩ : ∃ (b5 : List PyData) (q4 q5 q6 q7 q9 : Option PyData), forL (gNm 4) item13 (Ls.map tuI) [some (.list b4), some (tuI ns), some (.list (Ls.map tuI)), p3, p4, none, p6, none, p8, none, none, none] = .nx [some (.list b5), some (tuI ns), some (.list (Ls.map tuI)), p3, q4, q5, q6, q7, p8, q9, none, none] ∧ Bx (m + 30000000) b5 := by
    obtain ⟨δ', e, b5, rest, j, q4, q5, q6, q7, q9, rfl, hr, hj, hb5⟩ := for_ind (g := gNm 4) (body := item13)
      (fun ds δ => ∃ (b5 : List PyData) (rest : List (List Int)) (j : Nat) (q4 q5 q6 q7 q9 : Option PyData), δ = [some (.list b5), some (tuI ns), some (.list (Ls.map tuI)), p3, q4, q5, q6, q7, p8, q9, none, none] ∧ (ds = rest.map tuI ∧ ∀ q ∈ rest, Gd q) ∧ j + rest.length = Ls.length ∧ Bx (m + 20000000 + 4095 * j) b5) (by
        rintro d ds δ ⟨b5, rest, j, q4, q5, q6, q7, q9, rfl, ⟨hr, hg'⟩, hj, hb5⟩
        cases rest with
        | nil => cases hr
        | cons ms rest =>
          cases hr
          rw [List.length_cons] at hj
          have gm := hg' ms List.mem_cons_self
          obtain ⟨b6, r5, r6, r7, r9, e, hb6⟩ := item13_ok _ b5 (ns := ns) (ms := ms) (by omega) gm.1 gns.2 gm.2 (some (.list (Ls.map tuI))) p3 q5 q6 q7 p8 q9 hb5 (by omega)
          exact ⟨_, _, rfl, e, b6, rest, j + 1, some (tuI ms), r5, r6, r7, r9, rfl, ⟨rfl, fun q hq => hg' q (List.mem_cons_of_mem _ hq)⟩, by omega, hb6.mono (by omega)⟩) (Ls.map tuI) _ ⟨b4, Ls, 0, p4, none, p6, none, none, rfl, ⟨rfl, hg⟩, by omega, hb4.mono (by omega)⟩
    exact ⟨b5, q4, q5, q6, q7, q9, e, hb5.mono (by omega)⟩
  -- the future
  obtain ⟨ms, b6, e6, k1, k2, k3, k4, hb6⟩ := rise_ok _ 6 (10 ^ 38 + 1000) b5 hb5 (by omega) ns (by omega) nB n3 (by decide) (by decide)
  have l6 := hb6.lf
  obtain ⟨N, eN, N1, N2⟩ := max_tu ms 0
  have N0 := N2 0 (by simp)
  have a6 : addD (tuI ms) (.tuple [.int 0]) = some (tuI (ms ++ [0])) := by unfold tuI; rw [vAddT, if_pos (by simp; omega)]; simp
  have far : ∀ T : Int, T ≤ N → ms ≠ [] → ∃ y ∈ ms, T ≤ y := fun T hT hm => by
    rcases List.mem_append.mp N1 with h | h
    · exact ⟨N, h, hT⟩
    · have hN := List.mem_singleton.mp h
      cases ms with
      | nil => exact absurd rfl hm
      | cons y r =>
        have := k2 y List.mem_cons_self
        exact ⟨y, List.mem_cons_self, by omega⟩
  obtain ⟨p5, e7⟩ := lasts13 (ns := ns) (ms := ms) (by omega) k1.symm k4 [.int 0, .int N, .int (if N - 2 > 0 then N - 2 else 0)] (fun d hd => by
    simp at hd
    rcases hd with rfl | rfl | rfl
    · exact ⟨_, rfl, far 0 N0⟩
    · exact ⟨_, rfl, far N (Int.le_refl _)⟩
    · exact ⟨_, rfl, far _ (by split <;> omega)⟩) (some (.list b6)) (some (.list (Ls.map tuI))) p3 q5 q6 q7 p8 q9
  have s6 : (eCallB 0 3 G__law_rise (eCons (eVar 1) (eCons (eC (.int 6)) eNil))) [some (.list b5), some (tuI ns), some (.list (Ls.map tuI)), p3, q4, q5, q6, q7, p8, q9, none, none] = .ok (tuI ms) [some (.list b6), some (tuI ns), some (.list (Ls.map tuI)), p3, q4, q5, q6, q7, p8, q9, none, none] := by
    simp [e6, l6]
  have s7 : (iSq (eApp fTup (eCons (eC (.int 0)) (eCons (eApp (bestD mxI) (eCons (eBin addD (eVar 4) (eApp fTup (eCons (eC (.int 0)) eNil))) eNil)) (eCons (eApp max2D (eCons (eC (.int 0)) (eCons (eBin subD (eApp (bestD mxI) (eCons (eBin addD (eVar 4) (eApp fTup (eCons (eC (.int 0)) eNil))) eNil)) (eC (.int 2))) eNil))) eNil))))) [some (.list b6), some (tuI ns), some (.list (Ls.map tuI)), p3, some (tuI ms), q5, q6, q7, p8, q9, none, none] = .ok [.int 0, .int N, .int (if N - 2 > 0 then N - 2 else 0)] [some (.list b6), some (tuI ns), some (.list (Ls.map tuI)), p3, some (tuI ms), q5, q6, q7, p8, q9, none, none] := by
    have nxY : NX (tuI ms) := inferInstance
    have nxW : NX (tuI (ms ++ [0])) := inferInstance
    clear e7 e5 s6
    generalize tuI (ms ++ [0]) = W at *
    generalize tuI ms = Y at *
    simp [a6, eN]
  refine ⟨b6, runB_rt (δ := [some (.list b6), some (tuI ns), some (.list (Ls.map tuI)), p3, some (tuI ms), p5, q6, q7, p8, q9, none, none]) ?_ rfl, hb6.mono (by omega)⟩
  unfold sv__law_right
  have g5 : iSq (eVar 2) [some (.list b4), some (tuI ns), some (.list (Ls.map tuI)), p3, p4, none, p6, none, p8, none, none, none] = .ok (Ls.map tuI) [some (.list b4), some (tuI ns), some (.list (Ls.map tuI)), p3, p4, none, p6, none, p8, none, none, none] := by simp
  exact (sq_nx (asg_ (i := 1) s1)).trans ((sq_nx (asg_ (i := 2) s2)).trans ((sq_nx s3).trans ((sq_nx e4).trans ((sq_nx (for_ g5 e5)).trans ((sq_nx (asg_ (i := 4) s6)).trans ((sq_nx (for_ s7 e7)).trans (sq_rt (ret_ rfl))))))))
/-- law: three turns for each cell, all() -/
theorem law_true : ∀ ns : List Int, ns.length ≤ 63 → ∃ o, G_law [.list (ns.map .int)] = .ok (.bool true) o := by
  intro ns hl
  obtain ⟨cs, e0, hc⟩ := cells_ok ns hl
  have r2 : inR 3 = true := by decide
  have rl : rngL 0 3 = [.int 0, .int 1, .int 2] := by rfl
  have al : allD [.list [.bool true, .bool true, .bool true]] = some (.bool true) := vAll [true, true, true]
  obtain ⟨δ', e, p2, p3, rfl, _⟩ := for_ind (g := gNm 2) (body := (sSeq (sAsg 3 (eCallP 2 none G__law_box (eCons (eVar 1) (eCons (eVar 2) eNil))))
      (sSeq (sIf (tNo (tTru (eApp allD (eCons (eLc [4] (gNm 4) (iR1 (eC (.int 3))) tYs (eCallB 3 1 G__law_right eNil)) eNil)))) (sSeq (sRet (eC (.bool false))) sNil) sNil) sNil)))
    (fun ds δ => ∃ p2 p3 : Option PyData, δ = [some (.list (ns.map .int)), some (.list (cs.map .int)), p2, p3, none] ∧ ∀ d ∈ ds, ∃ k : Nat, d = .int k ∧ k ≤ 64) (by
      rintro d ds δ ⟨p2, p3, rfl, hd⟩
      obtain ⟨k, rfl, hk⟩ := hd d List.mem_cons_self
      obtain ⟨bc, e1, hb⟩ := box1_ok cs k hk
      obtain ⟨b2, e2, hb2⟩ := right_ok 0 bc hb (by decide)
      obtain ⟨b3, e3, hb3⟩ := right_ok _ b2 hb2 (by decide)
      obtain ⟨b4, e4, hb4⟩ := right_ok _ b3 hb3 (by decide)
      have l2 := hb2.lf
      have l3 := hb3.lf
      have l4 := hb4.lf
      refine ⟨[some (.list (ns.map .int)), some (.list (cs.map .int)), some (.int (k : Nat)), p3, none], [some (.list (ns.map .int)), some (.list (cs.map .int)), some (.int (k : Nat)), some (.list b4), none], by simp, ?_, some (.int (k : Nat)), some (.list b4), rfl, fun d hd' => hd d (List.mem_cons_of_mem _ hd')⟩
      generalize ns.map PyData.int = N at *
      generalize cs.map PyData.int = C at *
      simp [e1, r2, rl, lcL, e2, l2, e3, l3, e4, l4, al]) (rngL 0 cs.length) [some (.list (ns.map .int)), some (.list (cs.map .int)), none, none, none] ⟨none, none, rfl, fun d hd => by
        rw [rngL_eq] at hd
        obtain ⟨c, hc', rfl⟩ := List.mem_map.mp hd
        have := mem_rngI.mp hc'
        exact ⟨c.toNat, by congr 1; omega, by omega⟩⟩
  refine ⟨[], runP_rt (δ := [some (.list (ns.map .int)), some (.list (cs.map .int)), p2, p3, none]) ?_⟩
  unfold sv_law
  have s0 : (sAsg 1 (eCallP 2 none G__law_cells (eCons (eVar 0) (eCons (eC (.int 3)) eNil)))) (env0 5 [.list (ns.map .int)]) = .nx [some (.list (ns.map .int)), some (.list (cs.map .int)), none, none, none] := by
    simp [e0]
  have i1 : inR (cs.length : Nat) = true := inR_small (by omega) (by omega)
  have s1 : iR1 (eApp lenD (eCons (eVar 1) eNil)) [some (.list (ns.map .int)), some (.list (cs.map .int)), none, none, none] = .ok (rngL 0 (cs.length : Nat)) [some (.list (ns.map .int)), some (.list (cs.map .int)), none, none, none] := iR1_ (by simp) i1
  exact (sq_nx s0).trans ((sq_nx (for_ s1 e)).trans (sq_rt (ret_ (by simp))))
end G
namespace G
open PySem PySem.Spec PyProof.Rows L2 BD
theorem chain {P : Program} {w : World} {K : PySem.W.Frag} {mg : Str → Option Value} (base : Heap) (nm : Nm mg) (A__law_cells : At K mg "_law_cells" st__law_cells ["_law_script", "_law_most"]) (A__law_box : At K mg "_law_box" st__law_box ["_law_script", "_law_k"]) (A__law_take : At K mg "_law_take" st__law_take ["_law_box_here", "_law_span"]) (A__law_strewn : At K mg "_law_strewn" st__law_strewn ["_law_box_here", "_law_some"]) (A__law_of : At K mg "_law_of" st__law_of ["_law_box_here", "_law_some"]) (A__law_random_bench : At K mg "_law_random_bench" st__law_random_bench ["_law_box_here", "_law_most", "_law_top"]) (A__law_rise : At K mg "_law_rise" st__law_rise ["_law_box_here", "_law_bench", "_law_far"]) (A_look_many : At K mg "look_many" st_look_many ["one", "other"]) (A_bar : At K mg "bar" st_bar ["one", "other"]) (A_look_leads : At K mg "look_leads" st_look_leads ["one", "other"]) (A_numbers_ahead : At K mg "numbers_ahead" st_numbers_ahead ["seating"]) (A_empties_moved : At K mg "empties_moved" st_empties_moved ["one", "other"]) (A_movers : At K mg "movers" st_movers ["one", "other"]) (A_moved : At K mg "moved" st_moved ["one", "other"]) (A_person_on : At K mg "person_on" st_person_on ["seating", "seat"]) (A_empties_below : At K mg "empties_below" st_empties_below ["seating", "seat"]) (A_empty_at : At K mg "empty_at" st_empty_at ["seating", "number"]) (A_gone_down : At K mg "gone_down" st_gone_down ["one", "other", "seat"]) (A_next_person : At K mg "next_person" st_next_person ["one", "other", "person"]) (A_ring_of : At K mg "ring_of" st_ring_of ["one", "other", "person"]) (A_rings : At K mg "rings" st_rings ["one", "other"]) (A_distance : At K mg "distance" st_distance ["one", "other"]) (A_seat_ahead : At K mg "seat_ahead" st_seat_ahead ["seating", "person"]) (A_look_person : At K mg "look_person" st_look_person ["seating", "person"]) (A_moved_to : At K mg "moved_to" st_moved_to ["seating", "person", "seat"]) (A_called : At K mg "called" st_called ["seating", "person"]) (A_firsts : At K mg "firsts" st_firsts ["one", "other"]) (A_next_call : At K mg "next_call" st_next_call ["one", "other"]) (A_shortest : At K mg "shortest" st_shortest ["one", "other"]) (A_ways_left : At K mg "ways_left" st_ways_left ["starts", "limit", "taken"]) (A_futures_many : At K mg "futures_many" st_futures_many ["seating", "limit"]) (A_look_few : At K mg "look_few" st_look_few ["seating", "limit"]) (A_next_layer : At K mg "next_layer" st_next_layer ["layer", "other", "far"]) (A_ways_many : At K mg "ways_many" st_ways_many ["one", "other"]) (A_free_many : At K mg "free_many" st_free_many ["begin", "end", "taken"]) (A_ways_ahead : At K mg "ways_ahead" st_ways_ahead ["parts", "found", "seat"]) (A_stretches : At K mg "stretches" st_stretches ["low", "high", "cuts"]) (A_future_parts : At K mg "future_parts" st_future_parts ["seating", "limit", "found"]) (A_future_number : At K mg "future_number" st_future_number ["seating", "limit", "other"]) (A_ways_before : At K mg "ways_before" st_ways_before ["ends", "taken"]) (A_past_parts : At K mg "past_parts" st_past_parts ["seating", "found"]) (A_past_number : At K mg "past_number" st_past_number ["seating", "other"]) (A__law_told : At K mg "_law_told" st__law_told ["_law_door", "_law_bench", "_law_there", "_law_top"]) (A__law_put : At K mg "_law_put" st__law_put ["_law_bench", "_law_at", "_law_spot"]) (A__law_same : At K mg "_law_same" st__law_same ["_law_found", "_law_due"]) (A__law_right : At K mg "_law_right" st__law_right ["_law_box_here"]) (A_law : At K mg "law" st_law ["_law_script"]) (X_OtherPeople : XM K mg "OtherPeople" "many") (X_Barred : XM K mg "Barred" "person") (X_NoPerson : XM K mg "NoPerson" "person") (X_TooMany : XM K mg "TooMany" "many") (X_NoFuture : XM K mg "NoFuture" "limit") (X_First : XM K mg "First" "person") (X_NoNumber : XM K mg "NoNumber" "number") (X_Taken : XM K mg "Taken" "seat") (E_OtherPeople : EC P w K mg base 1 "OtherPeople" "many") (E_Barred : EC P w K mg base 1 "Barred" "person") (E_NoPerson : EC P w K mg base 1 "NoPerson" "person") (E_TooMany : EC P w K mg base 1 "TooMany" "many") (E_NoFuture : EC P w K mg base 1 "NoFuture" "limit") : DP P w K mg base 16 "law" st_law ["_law_script"] 1 false G_law := by
  have D__law_cells : DP P w K mg base 1 "_law_cells" st__law_cells ["_law_script", "_law_most"] 2 true G__law_cells := ok__law_cells nm A__law_cells 
  have D__law_box : DP P w K mg base 1 "_law_box" st__law_box ["_law_script", "_law_k"] 2 true G__law_box := ok__law_box nm A__law_box 
  have D__law_take : DB P w K mg base 12 "_law_take" st__law_take ["_law_box_here", "_law_span"] 2 false G__law_take := (ok__law_take nm A__law_take ) 12
  have D__law_strewn : DB P w K mg base 13 "_law_strewn" st__law_strewn ["_law_box_here", "_law_some"] 2 false G__law_strewn := ok__law_strewn nm A__law_strewn (D__law_take.mono (by decide))
  have D__law_of : DB P w K mg base 13 "_law_of" st__law_of ["_law_box_here", "_law_some"] 2 false G__law_of := ok__law_of nm A__law_of (D__law_take.mono (by decide))
  have D__law_random_bench : DB P w K mg base 14 "_law_random_bench" st__law_random_bench ["_law_box_here", "_law_most", "_law_top"] 3 false G__law_random_bench := ok__law_random_bench nm A__law_random_bench (D__law_take.mono (by decide)) (D__law_of.mono (by decide)) (D__law_strewn.mono (by decide))
  have D__law_rise : DB P w K mg base 13 "_law_rise" st__law_rise ["_law_box_here", "_law_bench", "_law_far"] 3 false G__law_rise := ok__law_rise nm A__law_rise (D__law_take.mono (by decide))
  have D_look_many : DP P w K mg base 3 "look_many" st_look_many ["one", "other"] 2 false G_look_many := ok_look_many nm A_look_many  E_OtherPeople
  have D_bar : DP P w K mg base 4 "bar" st_bar ["one", "other"] 2 false G_bar := ok_bar nm A_bar (D_look_many.mono (by decide))
  have D_look_leads : DP P w K mg base 5 "look_leads" st_look_leads ["one", "other"] 2 false G_look_leads := ok_look_leads nm A_look_leads (D_bar.mono (by decide)) E_Barred
  have D_numbers_ahead : DP P w K mg base 1 "numbers_ahead" st_numbers_ahead ["seating"] 1 false G_numbers_ahead := ok_numbers_ahead nm A_numbers_ahead 
  have D_empties_moved : DP P w K mg base 2 "empties_moved" st_empties_moved ["one", "other"] 2 false G_empties_moved := ok_empties_moved nm A_empties_moved (D_numbers_ahead.mono (by decide))
  have D_movers : DP P w K mg base 1 "movers" st_movers ["one", "other"] 2 false G_movers := ok_movers nm A_movers 
  have D_moved : DP P w K mg base 6 "moved" st_moved ["one", "other"] 2 false G_moved := ok_moved nm A_moved (D_look_leads.mono (by decide)) (D_movers.mono (by decide)) (D_empties_moved.mono (by decide))
  have D_person_on : DP P w K mg base 1 "person_on" st_person_on ["seating", "seat"] 2 false G_person_on := ok_person_on nm A_person_on 
  have D_empties_below : DP P w K mg base 1 "empties_below" st_empties_below ["seating", "seat"] 2 false G_empties_below := ok_empties_below nm A_empties_below 
  have D_empty_at : DP P w K mg base 2 "empty_at" st_empty_at ["seating", "number"] 2 false G_empty_at := ok_empty_at nm A_empty_at (D_numbers_ahead.mono (by decide))
  have D_gone_down : DP P w K mg base 3 "gone_down" st_gone_down ["one", "other", "seat"] 3 false G_gone_down := ok_gone_down nm A_gone_down (D_empties_below.mono (by decide)) (D_empty_at.mono (by decide)) (D_numbers_ahead.mono (by decide))
  have D_next_person : DP P w K mg base 4 "next_person" st_next_person ["one", "other", "person"] 3 false G_next_person := ok_next_person nm A_next_person (D_gone_down.mono (by decide)) (D_person_on.mono (by decide))
  have D_ring_of : DP P w K mg base 5 "ring_of" st_ring_of ["one", "other", "person"] 3 false G_ring_of := ok_ring_of nm A_ring_of (D_next_person.mono (by decide))
  have D_rings : DP P w K mg base 6 "rings" st_rings ["one", "other"] 2 false G_rings := ok_rings nm A_rings (D_look_leads.mono (by decide)) (D_movers.mono (by decide)) (D_ring_of.mono (by decide))
  have D_distance : DP P w K mg base 7 "distance" st_distance ["one", "other"] 2 false G_distance := ok_distance nm A_distance (D_moved.mono (by decide)) (D_rings.mono (by decide))
  have D_seat_ahead : DP P w K mg base 1 "seat_ahead" st_seat_ahead ["seating", "person"] 2 false G_seat_ahead := ok_seat_ahead nm A_seat_ahead 
  have D_look_person : DP P w K mg base 3 "look_person" st_look_person ["seating", "person"] 2 false G_look_person := ok_look_person nm A_look_person  E_NoPerson
  have D_moved_to : DP P w K mg base 1 "moved_to" st_moved_to ["seating", "person", "seat"] 3 false G_moved_to := ok_moved_to nm A_moved_to 
  have D_called : DP P w K mg base 4 "called" st_called ["seating", "person"] 2 false G_called := ok_called nm A_called (D_look_person.mono (by decide)) (D_moved_to.mono (by decide)) (D_seat_ahead.mono (by decide))
  have D_firsts : DP P w K mg base 8 "firsts" st_firsts ["one", "other"] 2 false G_firsts := ok_firsts nm A_firsts (D_distance.mono (by decide)) (D_movers.mono (by decide)) (D_seat_ahead.mono (by decide)) (D_called.mono (by decide))
  have D_next_call : DP P w K mg base 2 "next_call" st_next_call ["one", "other"] 2 false G_next_call := ok_next_call nm A_next_call (D_movers.mono (by decide)) (D_person_on.mono (by decide)) (D_seat_ahead.mono (by decide))
  have D_shortest : DP P w K mg base 8 "shortest" st_shortest ["one", "other"] 2 false G_shortest := ok_shortest nm A_shortest (D_distance.mono (by decide)) (D_next_call.mono (by decide)) (D_called.mono (by decide)) E_TooMany
  have D_ways_left : DP P w K mg base 1 "ways_left" st_ways_left ["starts", "limit", "taken"] 3 false G_ways_left := ok_ways_left nm A_ways_left 
  have D_futures_many : DP P w K mg base 2 "futures_many" st_futures_many ["seating", "limit"] 2 false G_futures_many := ok_futures_many nm A_futures_many (D_ways_left.mono (by decide))
  have D_look_few : DP P w K mg base 3 "look_few" st_look_few ["seating", "limit"] 2 false G_look_few := ok_look_few nm A_look_few (D_futures_many.mono (by decide)) E_TooMany
  have D_next_layer : DP P w K mg base 1 "next_layer" st_next_layer ["layer", "other", "far"] 3 false G_next_layer := ok_next_layer nm A_next_layer 
  have D_ways_many : DP P w K mg base 8 "ways_many" st_ways_many ["one", "other"] 2 false G_ways_many := ok_ways_many nm A_ways_many (D_distance.mono (by decide)) (D_look_few.mono (by decide)) (D_next_layer.mono (by decide))
  have D_free_many : DP P w K mg base 1 "free_many" st_free_many ["begin", "end", "taken"] 3 false G_free_many := ok_free_many nm A_free_many 
  have D_ways_ahead : DP P w K mg base 2 "ways_ahead" st_ways_ahead ["parts", "found", "seat"] 3 false G_ways_ahead := ok_ways_ahead nm A_ways_ahead (D_free_many.mono (by decide))
  have D_stretches : DP P w K mg base 1 "stretches" st_stretches ["low", "high", "cuts"] 3 false G_stretches := ok_stretches nm A_stretches 
  have D_future_parts : DP P w K mg base 2 "future_parts" st_future_parts ["seating", "limit", "found"] 3 false G_future_parts := ok_future_parts nm A_future_parts (D_stretches.mono (by decide)) (D_ways_left.mono (by decide))
  have D_future_number : DP P w K mg base 6 "future_number" st_future_number ["seating", "limit", "other"] 3 false G_future_number := ok_future_number nm A_future_number (D_look_leads.mono (by decide)) (D_ways_ahead.mono (by decide)) (D_future_parts.mono (by decide)) E_NoFuture
  have D_ways_before : DP P w K mg base 1 "ways_before" st_ways_before ["ends", "taken"] 2 false G_ways_before := ok_ways_before nm A_ways_before 
  have D_past_parts : DP P w K mg base 2 "past_parts" st_past_parts ["seating", "found"] 2 false G_past_parts := ok_past_parts nm A_past_parts (D_stretches.mono (by decide)) (D_ways_before.mono (by decide))
  have D_past_number : DP P w K mg base 6 "past_number" st_past_number ["seating", "other"] 2 false G_past_number := ok_past_number nm A_past_number (D_look_leads.mono (by decide)) (D_ways_ahead.mono (by decide)) (D_past_parts.mono (by decide))
  have D__law_told : DP P w K mg base 9 "_law_told" st__law_told ["_law_door", "_law_bench", "_law_there", "_law_top"] 4 false G__law_told := ok__law_told nm A__law_told (D_moved.mono (by decide)) (D_rings.mono (by decide)) (D_distance.mono (by decide)) (D_firsts.mono (by decide)) (D_shortest.mono (by decide)) (D_ways_many.mono (by decide)) (D_future_number.mono (by decide)) (D_past_number.mono (by decide)) X_Taken X_OtherPeople X_NoPerson X_NoNumber X_NoFuture X_First X_Barred
  have D__law_put : DP P w K mg base 1 "_law_put" st__law_put ["_law_bench", "_law_at", "_law_spot"] 3 false G__law_put := ok__law_put nm A__law_put 
  have D__law_same : DP P w K mg base 12 "_law_same" st__law_same ["_law_found", "_law_due"] 2 false G__law_same := (ok__law_same nm A__law_same ) 12
  have D__law_right : DB P w K mg base 15 "_law_right" st__law_right ["_law_box_here"] 1 false G__law_right := ok__law_right nm A__law_right (D__law_random_bench.mono (by decide)) (D__law_of.mono (by decide)) (D__law_strewn.mono (by decide)) (D__law_rise.mono (by decide)) (D__law_take.mono (by decide)) (D__law_put.mono (by decide)) (D__law_told.mono (by decide)) (D__law_same.mono (by decide))
  have D_law : DP P w K mg base 16 "law" st_law ["_law_script"] 1 false G_law := ok_law nm A_law (D__law_cells.mono (by decide)) (D__law_box.mono (by decide)) (D__law_right.mono (by decide))
  exact D_law
theorem all_mk {P : Program} {w : World} {K : PySem.W.Frag} {h : Heap} {mg : Str → Option Value} {fa f0 f1 f2 f3 f4 f5 f6 f7 f8 f9 f10 f11 f12 f13 f14 f15 f16 f17 f18 f19 f20 f21 f22 f23 f24 f25 f26 f27 f28 f29 f30 f31 f32 f33 f34 f35 f36 f37 f38 f39 f40 f41 f42 f43 f44 f45 f46 : Addr} (X : K.In h) (G : h.Ns mainGlobals mg) (hfa : mg "law" = some (.ref fa))
    {oc0 kV0 dc0 pm0 cd0 ct0 oc1 kV1 dc1 pm1 cd1 ct1 oc2 kV2 dc2 pm2 cd2 ct2 oc3 kV3 dc3 pm3 cd3 ct3 oc4 kV4 dc4 pm4 cd4 ct4 oc5 kV5 dc5 pm5 cd5 ct5 oc6 kV6 dc6 pm6 cd6 ct6 oc7 kV7 dc7 pm7 cd7 ct7 oc8 kV8 dc8 pm8 cd8 ct8 oc9 kV9 dc9 pm9 cd9 ct9 oc10 kV10 dc10 pm10 cd10 ct10 oc11 kV11 dc11 pm11 cd11 ct11 oc12 kV12 dc12 pm12 cd12 ct12 oc13 kV13 dc13 pm13 cd13 ct13 oc14 kV14 dc14 pm14 cd14 ct14 oc15 kV15 dc15 pm15 cd15 ct15 oc16 kV16 dc16 pm16 cd16 ct16 oc17 kV17 dc17 pm17 cd17 ct17 oc18 kV18 dc18 pm18 cd18 ct18 oc19 kV19 dc19 pm19 cd19 ct19 oc20 kV20 dc20 pm20 cd20 ct20 oc21 kV21 dc21 pm21 cd21 ct21 oc22 kV22 dc22 pm22 cd22 ct22 oc23 kV23 dc23 pm23 cd23 ct23 oc24 kV24 dc24 pm24 cd24 ct24 oc25 kV25 dc25 pm25 cd25 ct25 oc26 kV26 dc26 pm26 cd26 ct26 oc27 kV27 dc27 pm27 cd27 ct27 oc28 kV28 dc28 pm28 cd28 ct28 oc29 kV29 dc29 pm29 cd29 ct29 oc30 kV30 dc30 pm30 cd30 ct30 oc31 kV31 dc31 pm31 cd31 ct31 oc32 kV32 dc32 pm32 cd32 ct32 oc33 kV33 dc33 pm33 cd33 ct33 oc34 kV34 dc34 pm34 cd34 ct34 oc35 kV35 dc35 pm35 cd35 ct35 oc36 kV36 dc36 pm36 cd36 ct36 oc37 kV37 dc37 pm37 cd37 ct37 oc38 kV38 dc38 pm38 cd38 ct38 oc39 kV39 dc39 pm39 cd39 ct39 oc40 kV40 dc40 pm40 cd40 ct40 oc41 kV41 dc41 pm41 cd41 ct41 oc42 kV42 dc42 pm42 cd42 ct42 oc43 kV43 dc43 pm43 cd43 ct43 oc44 kV44 dc44 pm44 cd44 ct44 oc45 kV45 dc45 pm45 cd45 ct45 oc46 kV46 dc46 pm46 cd46 ct46 : Value} {od0 an0 od1 an1 od2 an2 od3 an3 od4 an4 od5 an5 od6 an6 od7 an7 od8 an8 od9 an9 od10 an10 od11 an11 od12 an12 od13 an13 od14 an14 od15 an15 od16 an16 od17 an17 od18 an18 od19 an19 od20 an20 od21 an21 od22 an22 od23 an23 od24 an24 od25 an25 od26 an26 od27 an27 od28 an28 od29 an29 od30 an30 od31 an31 od32 an32 od33 an33 od34 an34 od35 an35 od36 an36 od37 an37 od38 an38 od39 an39 od40 an40 od41 an41 od42 an42 od43 an43 od44 an44 od45 an45 od46 an46 : Option Addr} {sl0 sl1 sl2 sl3 sl4 sl5 sl6 sl7 sl8 sl9 sl10 sl11 sl12 sl13 sl14 sl15 sl16 sl17 sl18 sl19 sl20 sl21 sl22 sl23 sl24 sl25 sl26 sl27 sl28 sl29 sl30 sl31 sl32 sl33 sl34 sl35 sl36 sl37 sl38 sl39 sl40 sl41 sl42 sl43 sl44 sl45 sl46 : Array (Option Value)}
    {C0 N0 : Addr} {q0 : Str} {bs0 sub0 : List Value} {sn0 : List Str} {ab0 : Bool} {col0 : Option Bool} {dd0 : Option Addr} {m00 m10 m20 m30 m50 : Option Value}  {fI0 : Addr} {oI0 kI0 dI0 pI0 cI0 tI0 : Value} {odI0 anI0 : Option Addr} {slI0 : Array (Option Value)}
    {C1 N1 : Addr} {q1 : Str} {bs1 sub1 : List Value} {sn1 : List Str} {ab1 : Bool} {col1 : Option Bool} {dd1 : Option Addr} {m01 m11 m21 m31 m51 : Option Value}  {fI1 : Addr} {oI1 kI1 dI1 pI1 cI1 tI1 : Value} {odI1 anI1 : Option Addr} {slI1 : Array (Option Value)}
    {C2 N2 : Addr} {q2 : Str} {bs2 sub2 : List Value} {sn2 : List Str} {ab2 : Bool} {col2 : Option Bool} {dd2 : Option Addr} {m02 m12 m22 m32 m52 : Option Value}  {fI2 : Addr} {oI2 kI2 dI2 pI2 cI2 tI2 : Value} {odI2 anI2 : Option Addr} {slI2 : Array (Option Value)}
    {C3 N3 : Addr} {q3 : Str} {bs3 sub3 : List Value} {sn3 : List Str} {ab3 : Bool} {col3 : Option Bool} {dd3 : Option Addr} {m03 m13 m23 m33 m53 : Option Value}  {fI3 : Addr} {oI3 kI3 dI3 pI3 cI3 tI3 : Value} {odI3 anI3 : Option Addr} {slI3 : Array (Option Value)}
    {C4 N4 : Addr} {q4 : Str} {bs4 sub4 : List Value} {sn4 : List Str} {ab4 : Bool} {col4 : Option Bool} {dd4 : Option Addr} {m04 m14 m24 m34 m54 : Option Value}  {fI4 : Addr} {oI4 kI4 dI4 pI4 cI4 tI4 : Value} {odI4 anI4 : Option Addr} {slI4 : Array (Option Value)}
    {C5 N5 : Addr} {q5 : Str} {bs5 sub5 : List Value} {sn5 : List Str} {ab5 : Bool} {col5 : Option Bool} {dd5 : Option Addr} {m05 m15 m25 m35 m55 : Option Value} 
    {C6 N6 : Addr} {q6 : Str} {bs6 sub6 : List Value} {sn6 : List Str} {ab6 : Bool} {col6 : Option Bool} {dd6 : Option Addr} {m06 m16 m26 m36 m56 : Option Value} 
    {C7 N7 : Addr} {q7 : Str} {bs7 sub7 : List Value} {sn7 : List Str} {ab7 : Bool} {col7 : Option Bool} {dd7 : Option Addr} {m07 m17 m27 m37 m57 : Option Value} 
    (a0 : PySem.W.nsIn K mainGlobals "_law_cells" = some (some (.ref f0))) (l0 : K.lookup f0 = some ⟨oc0, od0, .func (PySem.W.fnOf "_law_cells" "_law_cells" (defArgs st__law_cells) (defBody st__law_cells) (defScope st__law_cells) .none kV0 dc0 pm0 an0 cd0 ct0), sl0⟩) (c0 : PySem.W.codeIn K cd0 "_law_cells" = true) (k0 : PySem.W.keepIn K (.ref f0) = true)
    (a1 : PySem.W.nsIn K mainGlobals "_law_box" = some (some (.ref f1))) (l1 : K.lookup f1 = some ⟨oc1, od1, .func (PySem.W.fnOf "_law_box" "_law_box" (defArgs st__law_box) (defBody st__law_box) (defScope st__law_box) .none kV1 dc1 pm1 an1 cd1 ct1), sl1⟩) (c1 : PySem.W.codeIn K cd1 "_law_box" = true) (k1 : PySem.W.keepIn K (.ref f1) = true)
    (a2 : PySem.W.nsIn K mainGlobals "_law_take" = some (some (.ref f2))) (l2 : K.lookup f2 = some ⟨oc2, od2, .func (PySem.W.fnOf "_law_take" "_law_take" (defArgs st__law_take) (defBody st__law_take) (defScope st__law_take) .none kV2 dc2 pm2 an2 cd2 ct2), sl2⟩) (c2 : PySem.W.codeIn K cd2 "_law_take" = true) (k2 : PySem.W.keepIn K (.ref f2) = true)
    (a3 : PySem.W.nsIn K mainGlobals "_law_strewn" = some (some (.ref f3))) (l3 : K.lookup f3 = some ⟨oc3, od3, .func (PySem.W.fnOf "_law_strewn" "_law_strewn" (defArgs st__law_strewn) (defBody st__law_strewn) (defScope st__law_strewn) .none kV3 dc3 pm3 an3 cd3 ct3), sl3⟩) (c3 : PySem.W.codeIn K cd3 "_law_strewn" = true) (k3 : PySem.W.keepIn K (.ref f3) = true)
    (a4 : PySem.W.nsIn K mainGlobals "_law_of" = some (some (.ref f4))) (l4 : K.lookup f4 = some ⟨oc4, od4, .func (PySem.W.fnOf "_law_of" "_law_of" (defArgs st__law_of) (defBody st__law_of) (defScope st__law_of) .none kV4 dc4 pm4 an4 cd4 ct4), sl4⟩) (c4 : PySem.W.codeIn K cd4 "_law_of" = true) (k4 : PySem.W.keepIn K (.ref f4) = true)
    (a5 : PySem.W.nsIn K mainGlobals "_law_random_bench" = some (some (.ref f5))) (l5 : K.lookup f5 = some ⟨oc5, od5, .func (PySem.W.fnOf "_law_random_bench" "_law_random_bench" (defArgs st__law_random_bench) (defBody st__law_random_bench) (defScope st__law_random_bench) .none kV5 dc5 pm5 an5 cd5 ct5), sl5⟩) (c5 : PySem.W.codeIn K cd5 "_law_random_bench" = true) (k5 : PySem.W.keepIn K (.ref f5) = true)
    (a6 : PySem.W.nsIn K mainGlobals "_law_rise" = some (some (.ref f6))) (l6 : K.lookup f6 = some ⟨oc6, od6, .func (PySem.W.fnOf "_law_rise" "_law_rise" (defArgs st__law_rise) (defBody st__law_rise) (defScope st__law_rise) .none kV6 dc6 pm6 an6 cd6 ct6), sl6⟩) (c6 : PySem.W.codeIn K cd6 "_law_rise" = true) (k6 : PySem.W.keepIn K (.ref f6) = true)
    (a7 : PySem.W.nsIn K mainGlobals "look_many" = some (some (.ref f7))) (l7 : K.lookup f7 = some ⟨oc7, od7, .func (PySem.W.fnOf "look_many" "look_many" (defArgs st_look_many) (defBody st_look_many) (defScope st_look_many) .none kV7 dc7 pm7 an7 cd7 ct7), sl7⟩) (c7 : PySem.W.codeIn K cd7 "look_many" = true) (k7 : PySem.W.keepIn K (.ref f7) = true)
    (a8 : PySem.W.nsIn K mainGlobals "bar" = some (some (.ref f8))) (l8 : K.lookup f8 = some ⟨oc8, od8, .func (PySem.W.fnOf "bar" "bar" (defArgs st_bar) (defBody st_bar) (defScope st_bar) .none kV8 dc8 pm8 an8 cd8 ct8), sl8⟩) (c8 : PySem.W.codeIn K cd8 "bar" = true) (k8 : PySem.W.keepIn K (.ref f8) = true)
    (a9 : PySem.W.nsIn K mainGlobals "look_leads" = some (some (.ref f9))) (l9 : K.lookup f9 = some ⟨oc9, od9, .func (PySem.W.fnOf "look_leads" "look_leads" (defArgs st_look_leads) (defBody st_look_leads) (defScope st_look_leads) .none kV9 dc9 pm9 an9 cd9 ct9), sl9⟩) (c9 : PySem.W.codeIn K cd9 "look_leads" = true) (k9 : PySem.W.keepIn K (.ref f9) = true)
    (a10 : PySem.W.nsIn K mainGlobals "numbers_ahead" = some (some (.ref f10))) (l10 : K.lookup f10 = some ⟨oc10, od10, .func (PySem.W.fnOf "numbers_ahead" "numbers_ahead" (defArgs st_numbers_ahead) (defBody st_numbers_ahead) (defScope st_numbers_ahead) .none kV10 dc10 pm10 an10 cd10 ct10), sl10⟩) (c10 : PySem.W.codeIn K cd10 "numbers_ahead" = true) (k10 : PySem.W.keepIn K (.ref f10) = true)
    (a11 : PySem.W.nsIn K mainGlobals "empties_moved" = some (some (.ref f11))) (l11 : K.lookup f11 = some ⟨oc11, od11, .func (PySem.W.fnOf "empties_moved" "empties_moved" (defArgs st_empties_moved) (defBody st_empties_moved) (defScope st_empties_moved) .none kV11 dc11 pm11 an11 cd11 ct11), sl11⟩) (c11 : PySem.W.codeIn K cd11 "empties_moved" = true) (k11 : PySem.W.keepIn K (.ref f11) = true)
    (a12 : PySem.W.nsIn K mainGlobals "movers" = some (some (.ref f12))) (l12 : K.lookup f12 = some ⟨oc12, od12, .func (PySem.W.fnOf "movers" "movers" (defArgs st_movers) (defBody st_movers) (defScope st_movers) .none kV12 dc12 pm12 an12 cd12 ct12), sl12⟩) (c12 : PySem.W.codeIn K cd12 "movers" = true) (k12 : PySem.W.keepIn K (.ref f12) = true)
    (a13 : PySem.W.nsIn K mainGlobals "moved" = some (some (.ref f13))) (l13 : K.lookup f13 = some ⟨oc13, od13, .func (PySem.W.fnOf "moved" "moved" (defArgs st_moved) (defBody st_moved) (defScope st_moved) .none kV13 dc13 pm13 an13 cd13 ct13), sl13⟩) (c13 : PySem.W.codeIn K cd13 "moved" = true) (k13 : PySem.W.keepIn K (.ref f13) = true)
    (a14 : PySem.W.nsIn K mainGlobals "person_on" = some (some (.ref f14))) (l14 : K.lookup f14 = some ⟨oc14, od14, .func (PySem.W.fnOf "person_on" "person_on" (defArgs st_person_on) (defBody st_person_on) (defScope st_person_on) .none kV14 dc14 pm14 an14 cd14 ct14), sl14⟩) (c14 : PySem.W.codeIn K cd14 "person_on" = true) (k14 : PySem.W.keepIn K (.ref f14) = true)
    (a15 : PySem.W.nsIn K mainGlobals "empties_below" = some (some (.ref f15))) (l15 : K.lookup f15 = some ⟨oc15, od15, .func (PySem.W.fnOf "empties_below" "empties_below" (defArgs st_empties_below) (defBody st_empties_below) (defScope st_empties_below) .none kV15 dc15 pm15 an15 cd15 ct15), sl15⟩) (c15 : PySem.W.codeIn K cd15 "empties_below" = true) (k15 : PySem.W.keepIn K (.ref f15) = true)
    (a16 : PySem.W.nsIn K mainGlobals "empty_at" = some (some (.ref f16))) (l16 : K.lookup f16 = some ⟨oc16, od16, .func (PySem.W.fnOf "empty_at" "empty_at" (defArgs st_empty_at) (defBody st_empty_at) (defScope st_empty_at) .none kV16 dc16 pm16 an16 cd16 ct16), sl16⟩) (c16 : PySem.W.codeIn K cd16 "empty_at" = true) (k16 : PySem.W.keepIn K (.ref f16) = true)
    (a17 : PySem.W.nsIn K mainGlobals "gone_down" = some (some (.ref f17))) (l17 : K.lookup f17 = some ⟨oc17, od17, .func (PySem.W.fnOf "gone_down" "gone_down" (defArgs st_gone_down) (defBody st_gone_down) (defScope st_gone_down) .none kV17 dc17 pm17 an17 cd17 ct17), sl17⟩) (c17 : PySem.W.codeIn K cd17 "gone_down" = true) (k17 : PySem.W.keepIn K (.ref f17) = true)
    (a18 : PySem.W.nsIn K mainGlobals "next_person" = some (some (.ref f18))) (l18 : K.lookup f18 = some ⟨oc18, od18, .func (PySem.W.fnOf "next_person" "next_person" (defArgs st_next_person) (defBody st_next_person) (defScope st_next_person) .none kV18 dc18 pm18 an18 cd18 ct18), sl18⟩) (c18 : PySem.W.codeIn K cd18 "next_person" = true) (k18 : PySem.W.keepIn K (.ref f18) = true)
    (a19 : PySem.W.nsIn K mainGlobals "ring_of" = some (some (.ref f19))) (l19 : K.lookup f19 = some ⟨oc19, od19, .func (PySem.W.fnOf "ring_of" "ring_of" (defArgs st_ring_of) (defBody st_ring_of) (defScope st_ring_of) .none kV19 dc19 pm19 an19 cd19 ct19), sl19⟩) (c19 : PySem.W.codeIn K cd19 "ring_of" = true) (k19 : PySem.W.keepIn K (.ref f19) = true)
    (a20 : PySem.W.nsIn K mainGlobals "rings" = some (some (.ref f20))) (l20 : K.lookup f20 = some ⟨oc20, od20, .func (PySem.W.fnOf "rings" "rings" (defArgs st_rings) (defBody st_rings) (defScope st_rings) .none kV20 dc20 pm20 an20 cd20 ct20), sl20⟩) (c20 : PySem.W.codeIn K cd20 "rings" = true) (k20 : PySem.W.keepIn K (.ref f20) = true)
    (a21 : PySem.W.nsIn K mainGlobals "distance" = some (some (.ref f21))) (l21 : K.lookup f21 = some ⟨oc21, od21, .func (PySem.W.fnOf "distance" "distance" (defArgs st_distance) (defBody st_distance) (defScope st_distance) .none kV21 dc21 pm21 an21 cd21 ct21), sl21⟩) (c21 : PySem.W.codeIn K cd21 "distance" = true) (k21 : PySem.W.keepIn K (.ref f21) = true)
    (a22 : PySem.W.nsIn K mainGlobals "seat_ahead" = some (some (.ref f22))) (l22 : K.lookup f22 = some ⟨oc22, od22, .func (PySem.W.fnOf "seat_ahead" "seat_ahead" (defArgs st_seat_ahead) (defBody st_seat_ahead) (defScope st_seat_ahead) .none kV22 dc22 pm22 an22 cd22 ct22), sl22⟩) (c22 : PySem.W.codeIn K cd22 "seat_ahead" = true) (k22 : PySem.W.keepIn K (.ref f22) = true)
    (a23 : PySem.W.nsIn K mainGlobals "look_person" = some (some (.ref f23))) (l23 : K.lookup f23 = some ⟨oc23, od23, .func (PySem.W.fnOf "look_person" "look_person" (defArgs st_look_person) (defBody st_look_person) (defScope st_look_person) .none kV23 dc23 pm23 an23 cd23 ct23), sl23⟩) (c23 : PySem.W.codeIn K cd23 "look_person" = true) (k23 : PySem.W.keepIn K (.ref f23) = true)
    (a24 : PySem.W.nsIn K mainGlobals "moved_to" = some (some (.ref f24))) (l24 : K.lookup f24 = some ⟨oc24, od24, .func (PySem.W.fnOf "moved_to" "moved_to" (defArgs st_moved_to) (defBody st_moved_to) (defScope st_moved_to) .none kV24 dc24 pm24 an24 cd24 ct24), sl24⟩) (c24 : PySem.W.codeIn K cd24 "moved_to" = true) (k24 : PySem.W.keepIn K (.ref f24) = true)
    (a25 : PySem.W.nsIn K mainGlobals "called" = some (some (.ref f25))) (l25 : K.lookup f25 = some ⟨oc25, od25, .func (PySem.W.fnOf "called" "called" (defArgs st_called) (defBody st_called) (defScope st_called) .none kV25 dc25 pm25 an25 cd25 ct25), sl25⟩) (c25 : PySem.W.codeIn K cd25 "called" = true) (k25 : PySem.W.keepIn K (.ref f25) = true)
    (a26 : PySem.W.nsIn K mainGlobals "firsts" = some (some (.ref f26))) (l26 : K.lookup f26 = some ⟨oc26, od26, .func (PySem.W.fnOf "firsts" "firsts" (defArgs st_firsts) (defBody st_firsts) (defScope st_firsts) .none kV26 dc26 pm26 an26 cd26 ct26), sl26⟩) (c26 : PySem.W.codeIn K cd26 "firsts" = true) (k26 : PySem.W.keepIn K (.ref f26) = true)
    (a27 : PySem.W.nsIn K mainGlobals "next_call" = some (some (.ref f27))) (l27 : K.lookup f27 = some ⟨oc27, od27, .func (PySem.W.fnOf "next_call" "next_call" (defArgs st_next_call) (defBody st_next_call) (defScope st_next_call) .none kV27 dc27 pm27 an27 cd27 ct27), sl27⟩) (c27 : PySem.W.codeIn K cd27 "next_call" = true) (k27 : PySem.W.keepIn K (.ref f27) = true)
    (a28 : PySem.W.nsIn K mainGlobals "shortest" = some (some (.ref f28))) (l28 : K.lookup f28 = some ⟨oc28, od28, .func (PySem.W.fnOf "shortest" "shortest" (defArgs st_shortest) (defBody st_shortest) (defScope st_shortest) .none kV28 dc28 pm28 an28 cd28 ct28), sl28⟩) (c28 : PySem.W.codeIn K cd28 "shortest" = true) (k28 : PySem.W.keepIn K (.ref f28) = true)
    (a29 : PySem.W.nsIn K mainGlobals "ways_left" = some (some (.ref f29))) (l29 : K.lookup f29 = some ⟨oc29, od29, .func (PySem.W.fnOf "ways_left" "ways_left" (defArgs st_ways_left) (defBody st_ways_left) (defScope st_ways_left) .none kV29 dc29 pm29 an29 cd29 ct29), sl29⟩) (c29 : PySem.W.codeIn K cd29 "ways_left" = true) (k29 : PySem.W.keepIn K (.ref f29) = true)
    (a30 : PySem.W.nsIn K mainGlobals "futures_many" = some (some (.ref f30))) (l30 : K.lookup f30 = some ⟨oc30, od30, .func (PySem.W.fnOf "futures_many" "futures_many" (defArgs st_futures_many) (defBody st_futures_many) (defScope st_futures_many) .none kV30 dc30 pm30 an30 cd30 ct30), sl30⟩) (c30 : PySem.W.codeIn K cd30 "futures_many" = true) (k30 : PySem.W.keepIn K (.ref f30) = true)
    (a31 : PySem.W.nsIn K mainGlobals "look_few" = some (some (.ref f31))) (l31 : K.lookup f31 = some ⟨oc31, od31, .func (PySem.W.fnOf "look_few" "look_few" (defArgs st_look_few) (defBody st_look_few) (defScope st_look_few) .none kV31 dc31 pm31 an31 cd31 ct31), sl31⟩) (c31 : PySem.W.codeIn K cd31 "look_few" = true) (k31 : PySem.W.keepIn K (.ref f31) = true)
    (a32 : PySem.W.nsIn K mainGlobals "next_layer" = some (some (.ref f32))) (l32 : K.lookup f32 = some ⟨oc32, od32, .func (PySem.W.fnOf "next_layer" "next_layer" (defArgs st_next_layer) (defBody st_next_layer) (defScope st_next_layer) .none kV32 dc32 pm32 an32 cd32 ct32), sl32⟩) (c32 : PySem.W.codeIn K cd32 "next_layer" = true) (k32 : PySem.W.keepIn K (.ref f32) = true)
    (a33 : PySem.W.nsIn K mainGlobals "ways_many" = some (some (.ref f33))) (l33 : K.lookup f33 = some ⟨oc33, od33, .func (PySem.W.fnOf "ways_many" "ways_many" (defArgs st_ways_many) (defBody st_ways_many) (defScope st_ways_many) .none kV33 dc33 pm33 an33 cd33 ct33), sl33⟩) (c33 : PySem.W.codeIn K cd33 "ways_many" = true) (k33 : PySem.W.keepIn K (.ref f33) = true)
    (a34 : PySem.W.nsIn K mainGlobals "free_many" = some (some (.ref f34))) (l34 : K.lookup f34 = some ⟨oc34, od34, .func (PySem.W.fnOf "free_many" "free_many" (defArgs st_free_many) (defBody st_free_many) (defScope st_free_many) .none kV34 dc34 pm34 an34 cd34 ct34), sl34⟩) (c34 : PySem.W.codeIn K cd34 "free_many" = true) (k34 : PySem.W.keepIn K (.ref f34) = true)
    (a35 : PySem.W.nsIn K mainGlobals "ways_ahead" = some (some (.ref f35))) (l35 : K.lookup f35 = some ⟨oc35, od35, .func (PySem.W.fnOf "ways_ahead" "ways_ahead" (defArgs st_ways_ahead) (defBody st_ways_ahead) (defScope st_ways_ahead) .none kV35 dc35 pm35 an35 cd35 ct35), sl35⟩) (c35 : PySem.W.codeIn K cd35 "ways_ahead" = true) (k35 : PySem.W.keepIn K (.ref f35) = true)
    (a36 : PySem.W.nsIn K mainGlobals "stretches" = some (some (.ref f36))) (l36 : K.lookup f36 = some ⟨oc36, od36, .func (PySem.W.fnOf "stretches" "stretches" (defArgs st_stretches) (defBody st_stretches) (defScope st_stretches) .none kV36 dc36 pm36 an36 cd36 ct36), sl36⟩) (c36 : PySem.W.codeIn K cd36 "stretches" = true) (k36 : PySem.W.keepIn K (.ref f36) = true)
    (a37 : PySem.W.nsIn K mainGlobals "future_parts" = some (some (.ref f37))) (l37 : K.lookup f37 = some ⟨oc37, od37, .func (PySem.W.fnOf "future_parts" "future_parts" (defArgs st_future_parts) (defBody st_future_parts) (defScope st_future_parts) .none kV37 dc37 pm37 an37 cd37 ct37), sl37⟩) (c37 : PySem.W.codeIn K cd37 "future_parts" = true) (k37 : PySem.W.keepIn K (.ref f37) = true)
    (a38 : PySem.W.nsIn K mainGlobals "future_number" = some (some (.ref f38))) (l38 : K.lookup f38 = some ⟨oc38, od38, .func (PySem.W.fnOf "future_number" "future_number" (defArgs st_future_number) (defBody st_future_number) (defScope st_future_number) .none kV38 dc38 pm38 an38 cd38 ct38), sl38⟩) (c38 : PySem.W.codeIn K cd38 "future_number" = true) (k38 : PySem.W.keepIn K (.ref f38) = true)
    (a39 : PySem.W.nsIn K mainGlobals "ways_before" = some (some (.ref f39))) (l39 : K.lookup f39 = some ⟨oc39, od39, .func (PySem.W.fnOf "ways_before" "ways_before" (defArgs st_ways_before) (defBody st_ways_before) (defScope st_ways_before) .none kV39 dc39 pm39 an39 cd39 ct39), sl39⟩) (c39 : PySem.W.codeIn K cd39 "ways_before" = true) (k39 : PySem.W.keepIn K (.ref f39) = true)
    (a40 : PySem.W.nsIn K mainGlobals "past_parts" = some (some (.ref f40))) (l40 : K.lookup f40 = some ⟨oc40, od40, .func (PySem.W.fnOf "past_parts" "past_parts" (defArgs st_past_parts) (defBody st_past_parts) (defScope st_past_parts) .none kV40 dc40 pm40 an40 cd40 ct40), sl40⟩) (c40 : PySem.W.codeIn K cd40 "past_parts" = true) (k40 : PySem.W.keepIn K (.ref f40) = true)
    (a41 : PySem.W.nsIn K mainGlobals "past_number" = some (some (.ref f41))) (l41 : K.lookup f41 = some ⟨oc41, od41, .func (PySem.W.fnOf "past_number" "past_number" (defArgs st_past_number) (defBody st_past_number) (defScope st_past_number) .none kV41 dc41 pm41 an41 cd41 ct41), sl41⟩) (c41 : PySem.W.codeIn K cd41 "past_number" = true) (k41 : PySem.W.keepIn K (.ref f41) = true)
    (a42 : PySem.W.nsIn K mainGlobals "_law_told" = some (some (.ref f42))) (l42 : K.lookup f42 = some ⟨oc42, od42, .func (PySem.W.fnOf "_law_told" "_law_told" (defArgs st__law_told) (defBody st__law_told) (defScope st__law_told) .none kV42 dc42 pm42 an42 cd42 ct42), sl42⟩) (c42 : PySem.W.codeIn K cd42 "_law_told" = true) (k42 : PySem.W.keepIn K (.ref f42) = true)
    (a43 : PySem.W.nsIn K mainGlobals "_law_put" = some (some (.ref f43))) (l43 : K.lookup f43 = some ⟨oc43, od43, .func (PySem.W.fnOf "_law_put" "_law_put" (defArgs st__law_put) (defBody st__law_put) (defScope st__law_put) .none kV43 dc43 pm43 an43 cd43 ct43), sl43⟩) (c43 : PySem.W.codeIn K cd43 "_law_put" = true) (k43 : PySem.W.keepIn K (.ref f43) = true)
    (a44 : PySem.W.nsIn K mainGlobals "_law_same" = some (some (.ref f44))) (l44 : K.lookup f44 = some ⟨oc44, od44, .func (PySem.W.fnOf "_law_same" "_law_same" (defArgs st__law_same) (defBody st__law_same) (defScope st__law_same) .none kV44 dc44 pm44 an44 cd44 ct44), sl44⟩) (c44 : PySem.W.codeIn K cd44 "_law_same" = true) (k44 : PySem.W.keepIn K (.ref f44) = true)
    (a45 : PySem.W.nsIn K mainGlobals "_law_right" = some (some (.ref f45))) (l45 : K.lookup f45 = some ⟨oc45, od45, .func (PySem.W.fnOf "_law_right" "_law_right" (defArgs st__law_right) (defBody st__law_right) (defScope st__law_right) .none kV45 dc45 pm45 an45 cd45 ct45), sl45⟩) (c45 : PySem.W.codeIn K cd45 "_law_right" = true) (k45 : PySem.W.keepIn K (.ref f45) = true)
    (a46 : PySem.W.nsIn K mainGlobals "law" = some (some (.ref f46))) (l46 : K.lookup f46 = some ⟨oc46, od46, .func (PySem.W.fnOf "law" "law" (defArgs st_law) (defBody st_law) (defScope st_law) .none kV46 dc46 pm46 an46 cd46 ct46), sl46⟩) (c46 : PySem.W.codeIn K cd46 "law" = true) (k46 : PySem.W.keepIn K (.ref f46) = true)
    (xa0 : PySem.W.nsIn K mainGlobals "OtherPeople" = some (some (.ref C0))) (xl0 : K.lookup C0 = some (excClassObj "OtherPeople" q0 C0 N0 bs0 (bmOf "OtherPeople") true sn0 sub0 ab0 col0 dd0 m00 m10 m20 m30 m50 "ValueError.__new__")) (xg0 : PySem.W.findIn K (.ref C0) "__getattribute__" = some (some (.builtin "BaseException.__getattribute__"))) (xh0 : PySem.W.findIn K (.ref C0) "__getattr__" = some none) (xt0 : PySem.W.typeIn K (.ref C0) = some (.type "type")) (xc0 : PySem.W.findIn K (.ref C0) "__class__" = some (some (.builtin "object.__class__"))) (xn0 : PySem.W.findIn K (.ref C0) "many" = some none) (ys0 : PySem.W.findIn K (.ref C0) "__setattr__" = some (some (.builtin "object.__setattr__"))) (ye0 : PySem.W.subIn K (.ref C0) (.type "BaseException") = some true) (yk0 : PySem.W.keepIn K (.ref C0) = true) (yi0 : PySem.W.findIn K (.ref C0) "__init__" = some (some (.ref fI0))) (yt0 : PySem.W.typeIn K (.ref fI0) = some (.type "function")) (yl0 : K.lookup fI0 = some ⟨oI0, odI0, .func (PySem.W.fnOf "__init__" "OtherPeople.__init__" (defArgs st_OtherPeople) (defBody st_OtherPeople) (defScope st_OtherPeople) .none kI0 dI0 pI0 anI0 cI0 tI0), slI0⟩) (yc0 : PySem.W.codeIn K cI0 "OtherPeople.__init__" = true) (yf0 : PySem.W.keepIn K (.ref fI0) = true)
    (xa1 : PySem.W.nsIn K mainGlobals "Barred" = some (some (.ref C1))) (xl1 : K.lookup C1 = some (excClassObj "Barred" q1 C1 N1 bs1 (bmOf "Barred") true sn1 sub1 ab1 col1 dd1 m01 m11 m21 m31 m51 "RuntimeError.__new__")) (xg1 : PySem.W.findIn K (.ref C1) "__getattribute__" = some (some (.builtin "BaseException.__getattribute__"))) (xh1 : PySem.W.findIn K (.ref C1) "__getattr__" = some none) (xt1 : PySem.W.typeIn K (.ref C1) = some (.type "type")) (xc1 : PySem.W.findIn K (.ref C1) "__class__" = some (some (.builtin "object.__class__"))) (xn1 : PySem.W.findIn K (.ref C1) "person" = some none) (ys1 : PySem.W.findIn K (.ref C1) "__setattr__" = some (some (.builtin "object.__setattr__"))) (ye1 : PySem.W.subIn K (.ref C1) (.type "BaseException") = some true) (yk1 : PySem.W.keepIn K (.ref C1) = true) (yi1 : PySem.W.findIn K (.ref C1) "__init__" = some (some (.ref fI1))) (yt1 : PySem.W.typeIn K (.ref fI1) = some (.type "function")) (yl1 : K.lookup fI1 = some ⟨oI1, odI1, .func (PySem.W.fnOf "__init__" "Barred.__init__" (defArgs st_Barred) (defBody st_Barred) (defScope st_Barred) .none kI1 dI1 pI1 anI1 cI1 tI1), slI1⟩) (yc1 : PySem.W.codeIn K cI1 "Barred.__init__" = true) (yf1 : PySem.W.keepIn K (.ref fI1) = true)
    (xa2 : PySem.W.nsIn K mainGlobals "NoPerson" = some (some (.ref C2))) (xl2 : K.lookup C2 = some (excClassObj "NoPerson" q2 C2 N2 bs2 (bmOf "NoPerson") true sn2 sub2 ab2 col2 dd2 m02 m12 m22 m32 m52 "LookupError.__new__")) (xg2 : PySem.W.findIn K (.ref C2) "__getattribute__" = some (some (.builtin "BaseException.__getattribute__"))) (xh2 : PySem.W.findIn K (.ref C2) "__getattr__" = some none) (xt2 : PySem.W.typeIn K (.ref C2) = some (.type "type")) (xc2 : PySem.W.findIn K (.ref C2) "__class__" = some (some (.builtin "object.__class__"))) (xn2 : PySem.W.findIn K (.ref C2) "person" = some none) (ys2 : PySem.W.findIn K (.ref C2) "__setattr__" = some (some (.builtin "object.__setattr__"))) (ye2 : PySem.W.subIn K (.ref C2) (.type "BaseException") = some true) (yk2 : PySem.W.keepIn K (.ref C2) = true) (yi2 : PySem.W.findIn K (.ref C2) "__init__" = some (some (.ref fI2))) (yt2 : PySem.W.typeIn K (.ref fI2) = some (.type "function")) (yl2 : K.lookup fI2 = some ⟨oI2, odI2, .func (PySem.W.fnOf "__init__" "NoPerson.__init__" (defArgs st_NoPerson) (defBody st_NoPerson) (defScope st_NoPerson) .none kI2 dI2 pI2 anI2 cI2 tI2), slI2⟩) (yc2 : PySem.W.codeIn K cI2 "NoPerson.__init__" = true) (yf2 : PySem.W.keepIn K (.ref fI2) = true)
    (xa3 : PySem.W.nsIn K mainGlobals "TooMany" = some (some (.ref C3))) (xl3 : K.lookup C3 = some (excClassObj "TooMany" q3 C3 N3 bs3 (bmOf "TooMany") true sn3 sub3 ab3 col3 dd3 m03 m13 m23 m33 m53 "OverflowError.__new__")) (xg3 : PySem.W.findIn K (.ref C3) "__getattribute__" = some (some (.builtin "BaseException.__getattribute__"))) (xh3 : PySem.W.findIn K (.ref C3) "__getattr__" = some none) (xt3 : PySem.W.typeIn K (.ref C3) = some (.type "type")) (xc3 : PySem.W.findIn K (.ref C3) "__class__" = some (some (.builtin "object.__class__"))) (xn3 : PySem.W.findIn K (.ref C3) "many" = some none) (ys3 : PySem.W.findIn K (.ref C3) "__setattr__" = some (some (.builtin "object.__setattr__"))) (ye3 : PySem.W.subIn K (.ref C3) (.type "BaseException") = some true) (yk3 : PySem.W.keepIn K (.ref C3) = true) (yi3 : PySem.W.findIn K (.ref C3) "__init__" = some (some (.ref fI3))) (yt3 : PySem.W.typeIn K (.ref fI3) = some (.type "function")) (yl3 : K.lookup fI3 = some ⟨oI3, odI3, .func (PySem.W.fnOf "__init__" "TooMany.__init__" (defArgs st_TooMany) (defBody st_TooMany) (defScope st_TooMany) .none kI3 dI3 pI3 anI3 cI3 tI3), slI3⟩) (yc3 : PySem.W.codeIn K cI3 "TooMany.__init__" = true) (yf3 : PySem.W.keepIn K (.ref fI3) = true)
    (xa4 : PySem.W.nsIn K mainGlobals "NoFuture" = some (some (.ref C4))) (xl4 : K.lookup C4 = some (excClassObj "NoFuture" q4 C4 N4 bs4 (bmOf "NoFuture") true sn4 sub4 ab4 col4 dd4 m04 m14 m24 m34 m54 "ValueError.__new__")) (xg4 : PySem.W.findIn K (.ref C4) "__getattribute__" = some (some (.builtin "BaseException.__getattribute__"))) (xh4 : PySem.W.findIn K (.ref C4) "__getattr__" = some none) (xt4 : PySem.W.typeIn K (.ref C4) = some (.type "type")) (xc4 : PySem.W.findIn K (.ref C4) "__class__" = some (some (.builtin "object.__class__"))) (xn4 : PySem.W.findIn K (.ref C4) "limit" = some none) (ys4 : PySem.W.findIn K (.ref C4) "__setattr__" = some (some (.builtin "object.__setattr__"))) (ye4 : PySem.W.subIn K (.ref C4) (.type "BaseException") = some true) (yk4 : PySem.W.keepIn K (.ref C4) = true) (yi4 : PySem.W.findIn K (.ref C4) "__init__" = some (some (.ref fI4))) (yt4 : PySem.W.typeIn K (.ref fI4) = some (.type "function")) (yl4 : K.lookup fI4 = some ⟨oI4, odI4, .func (PySem.W.fnOf "__init__" "NoFuture.__init__" (defArgs st_NoFuture) (defBody st_NoFuture) (defScope st_NoFuture) .none kI4 dI4 pI4 anI4 cI4 tI4), slI4⟩) (yc4 : PySem.W.codeIn K cI4 "NoFuture.__init__" = true) (yf4 : PySem.W.keepIn K (.ref fI4) = true)
    (xa5 : PySem.W.nsIn K mainGlobals "First" = some (some (.ref C5))) (xl5 : K.lookup C5 = some (excClassObj "First" q5 C5 N5 bs5 (bmOf "First") true sn5 sub5 ab5 col5 dd5 m05 m15 m25 m35 m55 "RuntimeError.__new__")) (xg5 : PySem.W.findIn K (.ref C5) "__getattribute__" = some (some (.builtin "BaseException.__getattribute__"))) (xh5 : PySem.W.findIn K (.ref C5) "__getattr__" = some none) (xt5 : PySem.W.typeIn K (.ref C5) = some (.type "type")) (xc5 : PySem.W.findIn K (.ref C5) "__class__" = some (some (.builtin "object.__class__"))) (xn5 : PySem.W.findIn K (.ref C5) "person" = some none)
    (xa6 : PySem.W.nsIn K mainGlobals "NoNumber" = some (some (.ref C6))) (xl6 : K.lookup C6 = some (excClassObj "NoNumber" q6 C6 N6 bs6 (bmOf "NoNumber") true sn6 sub6 ab6 col6 dd6 m06 m16 m26 m36 m56 "LookupError.__new__")) (xg6 : PySem.W.findIn K (.ref C6) "__getattribute__" = some (some (.builtin "BaseException.__getattribute__"))) (xh6 : PySem.W.findIn K (.ref C6) "__getattr__" = some none) (xt6 : PySem.W.typeIn K (.ref C6) = some (.type "type")) (xc6 : PySem.W.findIn K (.ref C6) "__class__" = some (some (.builtin "object.__class__"))) (xn6 : PySem.W.findIn K (.ref C6) "number" = some none)
    (xa7 : PySem.W.nsIn K mainGlobals "Taken" = some (some (.ref C7))) (xl7 : K.lookup C7 = some (excClassObj "Taken" q7 C7 N7 bs7 (bmOf "Taken") true sn7 sub7 ab7 col7 dd7 m07 m17 m27 m37 m57 "RuntimeError.__new__")) (xg7 : PySem.W.findIn K (.ref C7) "__getattribute__" = some (some (.builtin "BaseException.__getattribute__"))) (xh7 : PySem.W.findIn K (.ref C7) "__getattr__" = some none) (xt7 : PySem.W.typeIn K (.ref C7) = some (.type "type")) (xc7 : PySem.W.findIn K (.ref C7) "__class__" = some (some (.builtin "object.__class__"))) (xn7 : PySem.W.findIn K (.ref C7) "seat" = some none)
    (wn : PySem.W.specialIn K (.builtin "object.__class__") "__get__" = some (some (.builtin "getset_descriptor.__get__"))) (wt : PySem.W.takesIn K (.builtin "object.__class__") = some true)
    (z_LookupError : PySem.W.nsIn K mainGlobals "LookupError" = some none)
    (z_OverflowError : PySem.W.nsIn K mainGlobals "OverflowError" = some none)
    (z_RuntimeError : PySem.W.nsIn K mainGlobals "RuntimeError" = some none)
    (z_ValueError : PySem.W.nsIn K mainGlobals "ValueError" = some none)
    (z_abs : PySem.W.nsIn K mainGlobals "abs" = some none)
    (z_all : PySem.W.nsIn K mainGlobals "all" = some none)
    (z_any : PySem.W.nsIn K mainGlobals "any" = some none)
    (z_bool : PySem.W.nsIn K mainGlobals "bool" = some none)
    (z_enumerate : PySem.W.nsIn K mainGlobals "enumerate" = some none)
    (z_int : PySem.W.nsIn K mainGlobals "int" = some none)
    (z_isinstance : PySem.W.nsIn K mainGlobals "isinstance" = some none)
    (z_len : PySem.W.nsIn K mainGlobals "len" = some none)
    (z_list : PySem.W.nsIn K mainGlobals "list" = some none)
    (z_max : PySem.W.nsIn K mainGlobals "max" = some none)
    (z_min : PySem.W.nsIn K mainGlobals "min" = some none)
    (z_range : PySem.W.nsIn K mainGlobals "range" = some none)
    (z_set : PySem.W.nsIn K mainGlobals "set" = some none)
    (z_sorted : PySem.W.nsIn K mainGlobals "sorted" = some none)
    (z_str : PySem.W.nsIn K mainGlobals "str" = some none)
    (z_sum : PySem.W.nsIn K mainGlobals "sum" = some none)
    (z_tuple : PySem.W.nsIn K mainGlobals "tuple" = some none)
    (z_zip : PySem.W.nsIn K mainGlobals "zip" = some none)
    {tk_MOST : Tok} (zc_MOST : PySem.W.nsIn K mainGlobals "MOST" = some (some (.int 300 tk_MOST)))
    {tk_MOST_STEPS : Tok} (zc_MOST_STEPS : PySem.W.nsIn K mainGlobals "MOST_STEPS" = some (some (.int 300 tk_MOST_STEPS)))
    (pure : ∀ ns : List Int, ns.length ≤ 63 → ∃ o, G_law [.list (ns.map .int)] = .ok (.bool true) o) :
    ∃ fd : FuncData, (∀ (s : Shared) (u : Value), BindsTo s fd ⟨[u], []⟩ [("_law_script", u)]) ∧ ∀ base : Heap, FnG P w K mg base 16 fa fd ["_law_script"] (SpL K) := by
  have nm : Nm mg := ⟨PySem.W.mg_none_of X G z_LookupError, PySem.W.mg_none_of X G z_OverflowError, PySem.W.mg_none_of X G z_RuntimeError, PySem.W.mg_none_of X G z_ValueError, PySem.W.mg_none_of X G z_abs, PySem.W.mg_none_of X G z_all, PySem.W.mg_none_of X G z_any, PySem.W.mg_none_of X G z_bool, PySem.W.mg_none_of X G z_enumerate, PySem.W.mg_none_of X G z_int, PySem.W.mg_none_of X G z_isinstance, PySem.W.mg_none_of X G z_len, PySem.W.mg_none_of X G z_list, PySem.W.mg_none_of X G z_max, PySem.W.mg_none_of X G z_min, PySem.W.mg_none_of X G z_range, PySem.W.mg_none_of X G z_set, PySem.W.mg_none_of X G z_sorted, PySem.W.mg_none_of X G z_str, PySem.W.mg_none_of X G z_sum, PySem.W.mg_none_of X G z_tuple, PySem.W.mg_none_of X G z_zip, ⟨_, _, PySem.W.mg_of X G zc_MOST, rfl, ⟨_, rfl⟩⟩, ⟨_, _, PySem.W.mg_of X G zc_MOST_STEPS, rfl, ⟨_, rfl⟩⟩⟩
  have A__law_cells : At K mg "_law_cells" st__law_cells ["_law_script", "_law_most"] := .of X G a0 l0 c0 k0 fun _ _ _ _ _ _ us hl => match us, hl with | [_, _], _ => rfl
  have A__law_box : At K mg "_law_box" st__law_box ["_law_script", "_law_k"] := .of X G a1 l1 c1 k1 fun _ _ _ _ _ _ us hl => match us, hl with | [_, _], _ => rfl
  have A__law_take : At K mg "_law_take" st__law_take ["_law_box_here", "_law_span"] := .of X G a2 l2 c2 k2 fun _ _ _ _ _ _ us hl => match us, hl with | [_, _], _ => rfl
  have A__law_strewn : At K mg "_law_strewn" st__law_strewn ["_law_box_here", "_law_some"] := .of X G a3 l3 c3 k3 fun _ _ _ _ _ _ us hl => match us, hl with | [_, _], _ => rfl
  have A__law_of : At K mg "_law_of" st__law_of ["_law_box_here", "_law_some"] := .of X G a4 l4 c4 k4 fun _ _ _ _ _ _ us hl => match us, hl with | [_, _], _ => rfl
  have A__law_random_bench : At K mg "_law_random_bench" st__law_random_bench ["_law_box_here", "_law_most", "_law_top"] := .of X G a5 l5 c5 k5 fun _ _ _ _ _ _ us hl => match us, hl with | [_, _, _], _ => rfl
  have A__law_rise : At K mg "_law_rise" st__law_rise ["_law_box_here", "_law_bench", "_law_far"] := .of X G a6 l6 c6 k6 fun _ _ _ _ _ _ us hl => match us, hl with | [_, _, _], _ => rfl
  have A_look_many : At K mg "look_many" st_look_many ["one", "other"] := .of X G a7 l7 c7 k7 fun _ _ _ _ _ _ us hl => match us, hl with | [_, _], _ => rfl
  have A_bar : At K mg "bar" st_bar ["one", "other"] := .of X G a8 l8 c8 k8 fun _ _ _ _ _ _ us hl => match us, hl with | [_, _], _ => rfl
  have A_look_leads : At K mg "look_leads" st_look_leads ["one", "other"] := .of X G a9 l9 c9 k9 fun _ _ _ _ _ _ us hl => match us, hl with | [_, _], _ => rfl
  have A_numbers_ahead : At K mg "numbers_ahead" st_numbers_ahead ["seating"] := .of X G a10 l10 c10 k10 fun _ _ _ _ _ _ us hl => match us, hl with | [_], _ => rfl
  have A_empties_moved : At K mg "empties_moved" st_empties_moved ["one", "other"] := .of X G a11 l11 c11 k11 fun _ _ _ _ _ _ us hl => match us, hl with | [_, _], _ => rfl
  have A_movers : At K mg "movers" st_movers ["one", "other"] := .of X G a12 l12 c12 k12 fun _ _ _ _ _ _ us hl => match us, hl with | [_, _], _ => rfl
  have A_moved : At K mg "moved" st_moved ["one", "other"] := .of X G a13 l13 c13 k13 fun _ _ _ _ _ _ us hl => match us, hl with | [_, _], _ => rfl
  have A_person_on : At K mg "person_on" st_person_on ["seating", "seat"] := .of X G a14 l14 c14 k14 fun _ _ _ _ _ _ us hl => match us, hl with | [_, _], _ => rfl
  have A_empties_below : At K mg "empties_below" st_empties_below ["seating", "seat"] := .of X G a15 l15 c15 k15 fun _ _ _ _ _ _ us hl => match us, hl with | [_, _], _ => rfl
  have A_empty_at : At K mg "empty_at" st_empty_at ["seating", "number"] := .of X G a16 l16 c16 k16 fun _ _ _ _ _ _ us hl => match us, hl with | [_, _], _ => rfl
  have A_gone_down : At K mg "gone_down" st_gone_down ["one", "other", "seat"] := .of X G a17 l17 c17 k17 fun _ _ _ _ _ _ us hl => match us, hl with | [_, _, _], _ => rfl
  have A_next_person : At K mg "next_person" st_next_person ["one", "other", "person"] := .of X G a18 l18 c18 k18 fun _ _ _ _ _ _ us hl => match us, hl with | [_, _, _], _ => rfl
  have A_ring_of : At K mg "ring_of" st_ring_of ["one", "other", "person"] := .of X G a19 l19 c19 k19 fun _ _ _ _ _ _ us hl => match us, hl with | [_, _, _], _ => rfl
  have A_rings : At K mg "rings" st_rings ["one", "other"] := .of X G a20 l20 c20 k20 fun _ _ _ _ _ _ us hl => match us, hl with | [_, _], _ => rfl
  have A_distance : At K mg "distance" st_distance ["one", "other"] := .of X G a21 l21 c21 k21 fun _ _ _ _ _ _ us hl => match us, hl with | [_, _], _ => rfl
  have A_seat_ahead : At K mg "seat_ahead" st_seat_ahead ["seating", "person"] := .of X G a22 l22 c22 k22 fun _ _ _ _ _ _ us hl => match us, hl with | [_, _], _ => rfl
  have A_look_person : At K mg "look_person" st_look_person ["seating", "person"] := .of X G a23 l23 c23 k23 fun _ _ _ _ _ _ us hl => match us, hl with | [_, _], _ => rfl
  have A_moved_to : At K mg "moved_to" st_moved_to ["seating", "person", "seat"] := .of X G a24 l24 c24 k24 fun _ _ _ _ _ _ us hl => match us, hl with | [_, _, _], _ => rfl
  have A_called : At K mg "called" st_called ["seating", "person"] := .of X G a25 l25 c25 k25 fun _ _ _ _ _ _ us hl => match us, hl with | [_, _], _ => rfl
  have A_firsts : At K mg "firsts" st_firsts ["one", "other"] := .of X G a26 l26 c26 k26 fun _ _ _ _ _ _ us hl => match us, hl with | [_, _], _ => rfl
  have A_next_call : At K mg "next_call" st_next_call ["one", "other"] := .of X G a27 l27 c27 k27 fun _ _ _ _ _ _ us hl => match us, hl with | [_, _], _ => rfl
  have A_shortest : At K mg "shortest" st_shortest ["one", "other"] := .of X G a28 l28 c28 k28 fun _ _ _ _ _ _ us hl => match us, hl with | [_, _], _ => rfl
  have A_ways_left : At K mg "ways_left" st_ways_left ["starts", "limit", "taken"] := .of X G a29 l29 c29 k29 fun _ _ _ _ _ _ us hl => match us, hl with | [_, _, _], _ => rfl
  have A_futures_many : At K mg "futures_many" st_futures_many ["seating", "limit"] := .of X G a30 l30 c30 k30 fun _ _ _ _ _ _ us hl => match us, hl with | [_, _], _ => rfl
  have A_look_few : At K mg "look_few" st_look_few ["seating", "limit"] := .of X G a31 l31 c31 k31 fun _ _ _ _ _ _ us hl => match us, hl with | [_, _], _ => rfl
  have A_next_layer : At K mg "next_layer" st_next_layer ["layer", "other", "far"] := .of X G a32 l32 c32 k32 fun _ _ _ _ _ _ us hl => match us, hl with | [_, _, _], _ => rfl
  have A_ways_many : At K mg "ways_many" st_ways_many ["one", "other"] := .of X G a33 l33 c33 k33 fun _ _ _ _ _ _ us hl => match us, hl with | [_, _], _ => rfl
  have A_free_many : At K mg "free_many" st_free_many ["begin", "end", "taken"] := .of X G a34 l34 c34 k34 fun _ _ _ _ _ _ us hl => match us, hl with | [_, _, _], _ => rfl
  have A_ways_ahead : At K mg "ways_ahead" st_ways_ahead ["parts", "found", "seat"] := .of X G a35 l35 c35 k35 fun _ _ _ _ _ _ us hl => match us, hl with | [_, _, _], _ => rfl
  have A_stretches : At K mg "stretches" st_stretches ["low", "high", "cuts"] := .of X G a36 l36 c36 k36 fun _ _ _ _ _ _ us hl => match us, hl with | [_, _, _], _ => rfl
  have A_future_parts : At K mg "future_parts" st_future_parts ["seating", "limit", "found"] := .of X G a37 l37 c37 k37 fun _ _ _ _ _ _ us hl => match us, hl with | [_, _, _], _ => rfl
  have A_future_number : At K mg "future_number" st_future_number ["seating", "limit", "other"] := .of X G a38 l38 c38 k38 fun _ _ _ _ _ _ us hl => match us, hl with | [_, _, _], _ => rfl
  have A_ways_before : At K mg "ways_before" st_ways_before ["ends", "taken"] := .of X G a39 l39 c39 k39 fun _ _ _ _ _ _ us hl => match us, hl with | [_, _], _ => rfl
  have A_past_parts : At K mg "past_parts" st_past_parts ["seating", "found"] := .of X G a40 l40 c40 k40 fun _ _ _ _ _ _ us hl => match us, hl with | [_, _], _ => rfl
  have A_past_number : At K mg "past_number" st_past_number ["seating", "other"] := .of X G a41 l41 c41 k41 fun _ _ _ _ _ _ us hl => match us, hl with | [_, _], _ => rfl
  have A__law_told : At K mg "_law_told" st__law_told ["_law_door", "_law_bench", "_law_there", "_law_top"] := .of X G a42 l42 c42 k42 fun _ _ _ _ _ _ us hl => match us, hl with | [_, _, _, _], _ => rfl
  have A__law_put : At K mg "_law_put" st__law_put ["_law_bench", "_law_at", "_law_spot"] := .of X G a43 l43 c43 k43 fun _ _ _ _ _ _ us hl => match us, hl with | [_, _, _], _ => rfl
  have A__law_same : At K mg "_law_same" st__law_same ["_law_found", "_law_due"] := .of X G a44 l44 c44 k44 fun _ _ _ _ _ _ us hl => match us, hl with | [_, _], _ => rfl
  have A__law_right : At K mg "_law_right" st__law_right ["_law_box_here"] := .of X G a45 l45 c45 k45 fun _ _ _ _ _ _ us hl => match us, hl with | [_], _ => rfl
  have A_law : At K mg "law" st_law ["_law_script"] := .of X G a46 l46 c46 k46 fun _ _ _ _ _ _ us hl => match us, hl with | [_], _ => rfl
  have X_OtherPeople : XM K mg "OtherPeople" "many" := ⟨C0, PySem.W.mg_of X G xa0, ⟨xa0, ⟨_, _, _, _, _, _, _, _, _, _, _, _, _, _, xl0⟩, xg0, xh0, xt0, xc0, wn, wt, xn0⟩⟩
  have E_OtherPeople : ∀ base, EC P w K mg base 1 "OtherPeople" "many" := fun base => ec_mk (base := base) (st := st_OtherPeople) bse_V rfl X G xa0 xl0 ys0 ye0 xt0 yk0 xn0 yi0 yt0 yl0 yc0 yf0 (fun _ _ _ _ _ _ us hl => match us, hl with | [_, _], _ => rfl) sc_OtherPeople (ini_OtherPeople nm _)
  have X_Barred : XM K mg "Barred" "person" := ⟨C1, PySem.W.mg_of X G xa1, ⟨xa1, ⟨_, _, _, _, _, _, _, _, _, _, _, _, _, _, xl1⟩, xg1, xh1, xt1, xc1, wn, wt, xn1⟩⟩
  have E_Barred : ∀ base, EC P w K mg base 1 "Barred" "person" := fun base => ec_mk (base := base) (st := st_Barred) bse_R rfl X G xa1 xl1 ys1 ye1 xt1 yk1 xn1 yi1 yt1 yl1 yc1 yf1 (fun _ _ _ _ _ _ us hl => match us, hl with | [_, _], _ => rfl) sc_Barred (ini_Barred nm _)
  have X_NoPerson : XM K mg "NoPerson" "person" := ⟨C2, PySem.W.mg_of X G xa2, ⟨xa2, ⟨_, _, _, _, _, _, _, _, _, _, _, _, _, _, xl2⟩, xg2, xh2, xt2, xc2, wn, wt, xn2⟩⟩
  have E_NoPerson : ∀ base, EC P w K mg base 1 "NoPerson" "person" := fun base => ec_mk (base := base) (st := st_NoPerson) bse_L rfl X G xa2 xl2 ys2 ye2 xt2 yk2 xn2 yi2 yt2 yl2 yc2 yf2 (fun _ _ _ _ _ _ us hl => match us, hl with | [_, _], _ => rfl) sc_NoPerson (ini_NoPerson nm _)
  have X_TooMany : XM K mg "TooMany" "many" := ⟨C3, PySem.W.mg_of X G xa3, ⟨xa3, ⟨_, _, _, _, _, _, _, _, _, _, _, _, _, _, xl3⟩, xg3, xh3, xt3, xc3, wn, wt, xn3⟩⟩
  have E_TooMany : ∀ base, EC P w K mg base 1 "TooMany" "many" := fun base => ec_mk (base := base) (st := st_TooMany) bse_O rfl X G xa3 xl3 ys3 ye3 xt3 yk3 xn3 yi3 yt3 yl3 yc3 yf3 (fun _ _ _ _ _ _ us hl => match us, hl with | [_, _], _ => rfl) sc_TooMany (ini_TooMany nm _)
  have X_NoFuture : XM K mg "NoFuture" "limit" := ⟨C4, PySem.W.mg_of X G xa4, ⟨xa4, ⟨_, _, _, _, _, _, _, _, _, _, _, _, _, _, xl4⟩, xg4, xh4, xt4, xc4, wn, wt, xn4⟩⟩
  have E_NoFuture : ∀ base, EC P w K mg base 1 "NoFuture" "limit" := fun base => ec_mk (base := base) (st := st_NoFuture) bse_V rfl X G xa4 xl4 ys4 ye4 xt4 yk4 xn4 yi4 yt4 yl4 yc4 yf4 (fun _ _ _ _ _ _ us hl => match us, hl with | [_, _], _ => rfl) sc_NoFuture (ini_NoFuture nm _)
  have X_First : XM K mg "First" "person" := ⟨C5, PySem.W.mg_of X G xa5, ⟨xa5, ⟨_, _, _, _, _, _, _, _, _, _, _, _, _, _, xl5⟩, xg5, xh5, xt5, xc5, wn, wt, xn5⟩⟩
  have X_NoNumber : XM K mg "NoNumber" "number" := ⟨C6, PySem.W.mg_of X G xa6, ⟨xa6, ⟨_, _, _, _, _, _, _, _, _, _, _, _, _, _, xl6⟩, xg6, xh6, xt6, xc6, wn, wt, xn6⟩⟩
  have X_Taken : XM K mg "Taken" "seat" := ⟨C7, PySem.W.mg_of X G xa7, ⟨xa7, ⟨_, _, _, _, _, _, _, _, _, _, _, _, _, _, xl7⟩, xg7, xh7, xt7, xc7, wn, wt, xn7⟩⟩
  exact law_end hfa A_law (fun base => chain base nm A__law_cells A__law_box A__law_take A__law_strewn A__law_of A__law_random_bench A__law_rise A_look_many A_bar A_look_leads A_numbers_ahead A_empties_moved A_movers A_moved A_person_on A_empties_below A_empty_at A_gone_down A_next_person A_ring_of A_rings A_distance A_seat_ahead A_look_person A_moved_to A_called A_firsts A_next_call A_shortest A_ways_left A_futures_many A_look_few A_next_layer A_ways_many A_free_many A_ways_ahead A_stretches A_future_parts A_future_number A_ways_before A_past_parts A_past_number A__law_told A__law_put A__law_same A__law_right A_law X_OtherPeople X_Barred X_NoPerson X_TooMany X_NoFuture X_First X_NoNumber X_Taken (E_OtherPeople base) (E_Barred base) (E_NoPerson base) (E_TooMany base) (E_NoFuture base)) pure
end G
open PySem PySem.W PyProof.Rows
set_option maxRecDepth 100000 in
set_option maxHeartbeats 0 in
theorem PySem.Challenge.cw_benchcall_k13_barred_and_no_future_holds : PySem.Challenge.rw_benchcall_k13_barred_and_no_future.Holds := by
  w_on; o_law; k_head; (case hw => w_witness2)
  k_fill
  refine BD.walkL (l := PySem.Challenge.rw_benchcall_k13_barred_and_no_future) (k := 16) (par := "_law_script") rfl rfl ⟨⟨rfl, by decide, by decide⟩, rfl⟩ (fun w h Y => PySem.W.kIn_of Y) ?F
  case F =>
    intro w mg fa h KX GN hmg
    refine' G.all_mk KX GN hmg ?a0 ?l0 ?c0 ?k0 ?a1 ?l1 ?c1 ?k1 ?a2 ?l2 ?c2 ?k2 ?a3 ?l3 ?c3 ?k3 ?a4 ?l4 ?c4 ?k4 ?a5 ?l5 ?c5 ?k5 ?a6 ?l6 ?c6 ?k6 ?a7 ?l7 ?c7 ?k7 ?a8 ?l8 ?c8 ?k8 ?a9 ?l9 ?c9 ?k9 ?a10 ?l10 ?c10 ?k10 ?a11 ?l11 ?c11 ?k11 ?a12 ?l12 ?c12 ?k12 ?a13 ?l13 ?c13 ?k13 ?a14 ?l14 ?c14 ?k14 ?a15 ?l15 ?c15 ?k15 ?a16 ?l16 ?c16 ?k16 ?a17 ?l17 ?c17 ?k17 ?a18 ?l18 ?c18 ?k18 ?a19 ?l19 ?c19 ?k19 ?a20 ?l20 ?c20 ?k20 ?a21 ?l21 ?c21 ?k21 ?a22 ?l22 ?c22 ?k22 ?a23 ?l23 ?c23 ?k23 ?a24 ?l24 ?c24 ?k24 ?a25 ?l25 ?c25 ?k25 ?a26 ?l26 ?c26 ?k26 ?a27 ?l27 ?c27 ?k27 ?a28 ?l28 ?c28 ?k28 ?a29 ?l29 ?c29 ?k29 ?a30 ?l30 ?c30 ?k30 ?a31 ?l31 ?c31 ?k31 ?a32 ?l32 ?c32 ?k32 ?a33 ?l33 ?c33 ?k33 ?a34 ?l34 ?c34 ?k34 ?a35 ?l35 ?c35 ?k35 ?a36 ?l36 ?c36 ?k36 ?a37 ?l37 ?c37 ?k37 ?a38 ?l38 ?c38 ?k38 ?a39 ?l39 ?c39 ?k39 ?a40 ?l40 ?c40 ?k40 ?a41 ?l41 ?c41 ?k41 ?a42 ?l42 ?c42 ?k42 ?a43 ?l43 ?c43 ?k43 ?a44 ?l44 ?c44 ?k44 ?a45 ?l45 ?c45 ?k45 ?a46 ?l46 ?c46 ?k46 ?xa0 ?xl0 ?xg0 ?xh0 ?xt0 ?xc0 ?xn0 ?ys0 ?ye0 ?yk0 ?yi0 ?yt0 ?yl0 ?yc0 ?yf0 ?xa1 ?xl1 ?xg1 ?xh1 ?xt1 ?xc1 ?xn1 ?ys1 ?ye1 ?yk1 ?yi1 ?yt1 ?yl1 ?yc1 ?yf1 ?xa2 ?xl2 ?xg2 ?xh2 ?xt2 ?xc2 ?xn2 ?ys2 ?ye2 ?yk2 ?yi2 ?yt2 ?yl2 ?yc2 ?yf2 ?xa3 ?xl3 ?xg3 ?xh3 ?xt3 ?xc3 ?xn3 ?ys3 ?ye3 ?yk3 ?yi3 ?yt3 ?yl3 ?yc3 ?yf3 ?xa4 ?xl4 ?xg4 ?xh4 ?xt4 ?xc4 ?xn4 ?ys4 ?ye4 ?yk4 ?yi4 ?yt4 ?yl4 ?yc4 ?yf4 ?xa5 ?xl5 ?xg5 ?xh5 ?xt5 ?xc5 ?xn5 ?xa6 ?xl6 ?xg6 ?xh6 ?xt6 ?xc6 ?xn6 ?xa7 ?xl7 ?xg7 ?xh7 ?xt7 ?xc7 ?xn7 ?wn ?wt ?z_LookupError ?z_OverflowError ?z_RuntimeError ?z_ValueError ?z_abs ?z_all ?z_any ?z_bool ?z_enumerate ?z_int ?z_isinstance ?z_len ?z_list ?z_max ?z_min ?z_range ?z_set ?z_sorted ?z_str ?z_sum ?z_tuple ?z_zip ?zc_MOST ?zc_MOST_STEPS G.law_true
    (case a0 => k_is)
    (case l0 => k_is)
    (case c0 => k_is)
    (case k0 => k_is)
    (case a1 => k_is)
    (case l1 => k_is)
    (case c1 => k_is)
    (case k1 => k_is)
    (case a2 => k_is)
    (case l2 => k_is)
    (case c2 => k_is)
    (case k2 => k_is)
    (case a3 => k_is)
    (case l3 => k_is)
    (case c3 => k_is)
    (case k3 => k_is)
    (case a4 => k_is)
    (case l4 => k_is)
    (case c4 => k_is)
    (case k4 => k_is)
    (case a5 => k_is)
    (case l5 => k_is)
    (case c5 => k_is)
    (case k5 => k_is)
    (case a6 => k_is)
    (case l6 => k_is)
    (case c6 => k_is)
    (case k6 => k_is)
    (case a7 => k_is)
    (case l7 => k_is)
    (case c7 => k_is)
    (case k7 => k_is)
    (case a8 => k_is)
    (case l8 => k_is)
    (case c8 => k_is)
    (case k8 => k_is)
    (case a9 => k_is)
    (case l9 => k_is)
    (case c9 => k_is)
    (case k9 => k_is)
    (case a10 => k_is)
    (case l10 => k_is)
    (case c10 => k_is)
    (case k10 => k_is)
    (case a11 => k_is)
    (case l11 => k_is)
    (case c11 => k_is)
    (case k11 => k_is)
    (case a12 => k_is)
    (case l12 => k_is)
    (case c12 => k_is)
    (case k12 => k_is)
    (case a13 => k_is)
    (case l13 => k_is)
    (case c13 => k_is)
    (case k13 => k_is)
    (case a14 => k_is)
    (case l14 => k_is)
    (case c14 => k_is)
    (case k14 => k_is)
    (case a15 => k_is)
    (case l15 => k_is)
    (case c15 => k_is)
    (case k15 => k_is)
    (case a16 => k_is)
    (case l16 => k_is)
    (case c16 => k_is)
    (case k16 => k_is)
    (case a17 => k_is)
    (case l17 => k_is)
    (case c17 => k_is)
    (case k17 => k_is)
    (case a18 => k_is)
    (case l18 => k_is)
    (case c18 => k_is)
    (case k18 => k_is)
    (case a19 => k_is)
    (case l19 => k_is)
    (case c19 => k_is)
    (case k19 => k_is)
    (case a20 => k_is)
    (case l20 => k_is)
    (case c20 => k_is)
    (case k20 => k_is)
    (case a21 => k_is)
    (case l21 => k_is)
    (case c21 => k_is)
    (case k21 => k_is)
    (case a22 => k_is)
    (case l22 => k_is)
    (case c22 => k_is)
    (case k22 => k_is)
    (case a23 => k_is)
    (case l23 => k_is)
    (case c23 => k_is)
    (case k23 => k_is)
    (case a24 => k_is)
    (case l24 => k_is)
    (case c24 => k_is)
    (case k24 => k_is)
    (case a25 => k_is)
    (case l25 => k_is)
    (case c25 => k_is)
    (case k25 => k_is)
    (case a26 => k_is)
    (case l26 => k_is)
    (case c26 => k_is)
    (case k26 => k_is)
    (case a27 => k_is)
    (case l27 => k_is)
    (case c27 => k_is)
    (case k27 => k_is)
    (case a28 => k_is)
    (case l28 => k_is)
    (case c28 => k_is)
    (case k28 => k_is)
    (case a29 => k_is)
    (case l29 => k_is)
    (case c29 => k_is)
    (case k29 => k_is)
    (case a30 => k_is)
    (case l30 => k_is)
    (case c30 => k_is)
    (case k30 => k_is)
    (case a31 => k_is)
    (case l31 => k_is)
    (case c31 => k_is)
    (case k31 => k_is)
    (case a32 => k_is)
    (case l32 => k_is)
    (case c32 => k_is)
    (case k32 => k_is)
    (case a33 => k_is)
    (case l33 => k_is)
    (case c33 => k_is)
    (case k33 => k_is)
    (case a34 => k_is)
    (case l34 => k_is)
    (case c34 => k_is)
    (case k34 => k_is)
    (case a35 => k_is)
    (case l35 => k_is)
    (case c35 => k_is)
    (case k35 => k_is)
    (case a36 => k_is)
    (case l36 => k_is)
    (case c36 => k_is)
    (case k36 => k_is)
    (case a37 => k_is)
    (case l37 => k_is)
    (case c37 => k_is)
    (case k37 => k_is)
    (case a38 => k_is)
    (case l38 => k_is)
    (case c38 => k_is)
    (case k38 => k_is)
    (case a39 => k_is)
    (case l39 => k_is)
    (case c39 => k_is)
    (case k39 => k_is)
    (case a40 => k_is)
    (case l40 => k_is)
    (case c40 => k_is)
    (case k40 => k_is)
    (case a41 => k_is)
    (case l41 => k_is)
    (case c41 => k_is)
    (case k41 => k_is)
    (case a42 => k_is)
    (case l42 => k_is)
    (case c42 => k_is)
    (case k42 => k_is)
    (case a43 => k_is)
    (case l43 => k_is)
    (case c43 => k_is)
    (case k43 => k_is)
    (case a44 => k_is)
    (case l44 => k_is)
    (case c44 => k_is)
    (case k44 => k_is)
    (case a45 => k_is)
    (case l45 => k_is)
    (case c45 => k_is)
    (case k45 => k_is)
    (case a46 => k_is)
    (case l46 => k_is)
    (case c46 => k_is)
    (case k46 => k_is)
    (case xa0 => k_is)
    (case xl0 => k_is)
    (case xg0 => k_is)
    (case xh0 => k_is)
    (case xt0 => k_is)
    (case xc0 => k_is)
    (case xn0 => k_is)
    (case ys0 => k_is)
    (case ye0 => k_is)
    (case yk0 => k_is)
    (case yi0 => k_is)
    (case yt0 => k_is)
    (case yl0 => k_is)
    (case yc0 => k_is)
    (case yf0 => k_is)
    (case xa1 => k_is)
    (case xl1 => k_is)
    (case xg1 => k_is)
    (case xh1 => k_is)
    (case xt1 => k_is)
    (case xc1 => k_is)
    (case xn1 => k_is)
    (case ys1 => k_is)
    (case ye1 => k_is)
    (case yk1 => k_is)
    (case yi1 => k_is)
    (case yt1 => k_is)
    (case yl1 => k_is)
    (case yc1 => k_is)
    (case yf1 => k_is)
    (case xa2 => k_is)
    (case xl2 => k_is)
    (case xg2 => k_is)
    (case xh2 => k_is)
    (case xt2 => k_is)
    (case xc2 => k_is)
    (case xn2 => k_is)
    (case ys2 => k_is)
    (case ye2 => k_is)
    (case yk2 => k_is)
    (case yi2 => k_is)
    (case yt2 => k_is)
    (case yl2 => k_is)
    (case yc2 => k_is)
    (case yf2 => k_is)
    (case xa3 => k_is)
    (case xl3 => k_is)
    (case xg3 => k_is)
    (case xh3 => k_is)
    (case xt3 => k_is)
    (case xc3 => k_is)
    (case xn3 => k_is)
    (case ys3 => k_is)
    (case ye3 => k_is)
    (case yk3 => k_is)
    (case yi3 => k_is)
    (case yt3 => k_is)
    (case yl3 => k_is)
    (case yc3 => k_is)
    (case yf3 => k_is)
    (case xa4 => k_is)
    (case xl4 => k_is)
    (case xg4 => k_is)
    (case xh4 => k_is)
    (case xt4 => k_is)
    (case xc4 => k_is)
    (case xn4 => k_is)
    (case ys4 => k_is)
    (case ye4 => k_is)
    (case yk4 => k_is)
    (case yi4 => k_is)
    (case yt4 => k_is)
    (case yl4 => k_is)
    (case yc4 => k_is)
    (case yf4 => k_is)
    (case xa5 => k_is)
    (case xl5 => k_is)
    (case xg5 => k_is)
    (case xh5 => k_is)
    (case xt5 => k_is)
    (case xc5 => k_is)
    (case xn5 => k_is)
    (case xa6 => k_is)
    (case xl6 => k_is)
    (case xg6 => k_is)
    (case xh6 => k_is)
    (case xt6 => k_is)
    (case xc6 => k_is)
    (case xn6 => k_is)
    (case xa7 => k_is)
    (case xl7 => k_is)
    (case xg7 => k_is)
    (case xh7 => k_is)
    (case xt7 => k_is)
    (case xc7 => k_is)
    (case xn7 => k_is)
    (case wn => k_is)
    (case wt => k_is)
    (case z_LookupError => k_is)
    (case z_OverflowError => k_is)
    (case z_RuntimeError => k_is)
    (case z_ValueError => k_is)
    (case z_abs => k_is)
    (case z_all => k_is)
    (case z_any => k_is)
    (case z_bool => k_is)
    (case z_enumerate => k_is)
    (case z_int => k_is)
    (case z_isinstance => k_is)
    (case z_len => k_is)
    (case z_list => k_is)
    (case z_max => k_is)
    (case z_min => k_is)
    (case z_range => k_is)
    (case z_set => k_is)
    (case z_sorted => k_is)
    (case z_str => k_is)
    (case z_sum => k_is)
    (case z_tuple => k_is)
    (case z_zip => k_is)
    (case zc_MOST => k_is)
    (case zc_MOST_STEPS => k_is)

