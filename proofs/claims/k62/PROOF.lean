import PyProof.Rows.All
import Wide.All
import OpenK.AllK
import Wide.FinOn
import HandS.ForMost
import HandS.Wide
import HandS.Style
import HandS.NoneIn
import HandS.IsInst
import HandS.CallLocal
import HandS.Walk
import HandS.Evl
import PySem.Challenge.RW_countveil_k62_whole_seasons_and_patterns
import KE.KDictZip
import KE.KItemsList
import KE.GoesEnumKw
import HandS.ListItems
set_option Elab.async false
set_option linter.all false
set_option maxRecDepth 100000
set_option maxHeartbeats 4000000
/-! data-level judgements over the hand layer -/
namespace Cv
open PySem PySem.Spec PyProof.Rows L2
open Evl (Ex)

/-! ### heaps -/
theorem _root_.Evl.Ex.free {H H' : Hp} {p : Addr} (e : Ex H H') (h : H' p = none) : H p = none := Evl.fresh_back e h
def era (ex : List Addr) (H : Hp) : Hp := fun a => if a ∈ ex then none else H a
theorem era_nil (H : Hp) : era [] H = H := by
  funext a
  unfold era
  rw [if_neg (by simp)]
theorem era_at {ex : List Addr} {H : Hp} {a : Addr} (h : a ∉ ex) : era ex H a = H a := by
  unfold era
  rw [if_neg h]
theorem era_some {ex : List Addr} {H : Hp} {a : Addr} {o : HO} (h : era ex H a = some o) : a ∉ ex ∧ H a = some o := by
  unfold era at h
  by_cases q : a ∈ ex
  · rw [if_pos q] at h
    cases h
  · rw [if_neg q] at h
    exact ⟨q, h⟩
theorem era_le (ex : List Addr) (H : Hp) : Ex (era ex H) H := fun a o h => (era_some h).2
theorem era_ex {ex : List Addr} {H H' : Hp} (e : Ex H H') : Ex (era ex H) (era ex H') := fun a o h => by
  obtain ⟨h1, h2⟩ := era_some h
  rw [era_at h1]
  exact e a o h2
theorem era_upd {ex : List Addr} {H : Hp} {p : Addr} {o : HO} (h : p ∈ ex) : era ex (upd H p o) = era ex H := by
  funext a
  by_cases q : a ∈ ex
  · unfold era
    rw [if_pos q, if_pos q]
  · rw [era_at q, era_at q, upd_ne (fun e => q (by rw [e]; exact h))]
/-- a fresh cell f is taken out of sight -/
theorem era_hide {ex : List Addr} {H H' : Hp} {f : Addr} (e : Ex H H') (h : H f = none) : Ex (era ex H) (era (f :: ex) H') := fun a o ha => by
  obtain ⟨h1, h2⟩ := era_some ha
  have hf : a ≠ f := ne_of_none h2 h
  rw [era_at (by simp only [List.mem_cons, not_or]; exact ⟨hf, h1⟩)]
  exact e a o h2
theorem era_show {ex : List Addr} {H : Hp} {f : Addr} : Ex (era (f :: ex) H) (era ex H) := fun a o ha => by
  obtain ⟨h1, h2⟩ := era_some ha
  rw [era_at (fun z => h1 (List.mem_cons_of_mem _ z))]
  exact h2
def Al (ex : List Addr) (H : Hp) : Prop := ∀ a ∈ ex, H a ≠ none
theorem Al.up {ex : List Addr} {H H' : Hp} (h : Al ex H) (e : Ex H H') : Al ex H' := fun a ha z => h a ha (e.free z)
theorem Al.out {ex : List Addr} {H : Hp} (h : Al ex H) {p : Addr} (hp : H p = none) : p ∉ ex := fun z => h p z hp
theorem Al.cons {ex : List Addr} {H : Hp} {f : Addr} {o : HO} (h : Al ex H) (hf : H f = some o) : Al (f :: ex) H := fun a ha z => by
  rcases List.mem_cons.mp ha with e | e
  · rw [e, hf] at z
    cases z
  · exact h a e z
theorem Al.tail {ex : List Addr} {H : Hp} {f : Addr} (h : Al (f :: ex) H) : Al ex H := fun a ha => h a (List.mem_cons_of_mem _ ha)

/-! ### data in a heap -/
mutual
inductive Dq (H : Hp) : V → PyData → Prop
  | non : Dq H .non .none
  | bl (b : Bool) : Dq H (.bl b) (.bool b)
  | int (i : Int) : Dq H (.int i) (.int i)
  | lst {a : Addr} {xs : List V} {ds : List PyData} : H a = some (.lst xs) → DqA H xs ds → Dq H (.ref a) (.list ds)
  | tup {a : Addr} {xs : List V} {ds : List PyData} : H a = some (.tup xs) → DqA H xs ds → Dq H (.ref a) (.tuple ds)
inductive DqA (H : Hp) : List V → List PyData → Prop
  | nil : DqA H [] []
  | cons {v : V} {vs : List V} {d : PyData} {ds : List PyData} : Dq H v d → DqA H vs ds → DqA H (v :: vs) (d :: ds)
end
mutual
theorem Dq.mono {H H' : Hp} (e : Ex H H') : ∀ (d : PyData) (v : V), Dq H v d → Dq H' v d
  | .none, _, h => by cases h; exact .non
  | .bool b, _, h => by cases h; exact .bl b
  | .int i, _, h => by cases h; exact .int i
  | .str _, _, h => by cases h
  | .list ds, _, h => by
    cases h with
    | lst h1 h2 => exact .lst (e _ _ h1) (DqA.mono e ds _ h2)
  | .tuple ds, _, h => by
    cases h with
    | tup h1 h2 => exact .tup (e _ _ h1) (DqA.mono e ds _ h2)
  | .dict _, _, h => by cases h
theorem DqA.mono {H H' : Hp} (e : Ex H H') : ∀ (ds : List PyData) (vs : List V), DqA H vs ds → DqA H' vs ds
  | [], _, h => by cases h; exact .nil
  | d :: ds, _, h => by
    cases h with
    | cons h1 h2 => exact .cons (Dq.mono e d _ h1) (DqA.mono e ds _ h2)
end
theorem Dq.up {H H' : Hp} {v : V} {d : PyData} (h : Dq H v d) (e : Ex H H') : Dq H' v d := Dq.mono e d v h
theorem DqA.up {H H' : Hp} {vs : List V} {ds : List PyData} (h : DqA H vs ds) (e : Ex H H') : DqA H' vs ds := DqA.mono e ds vs h
mutual
theorem Dq.dp (K : PySem.W.Frag) {H : Hp} : ∀ (d : PyData) (v : V), Dq H v d → Dp K H v d
  | .none, _, h => by cases h; exact .non
  | .bool b, _, h => by cases h; exact .bl b
  | .int i, _, h => by cases h; exact .int i
  | .str _, _, h => by cases h
  | .list ds, _, h => by
    cases h with
    | lst h1 h2 => exact .lst (SqL.of h1) (DqA.dp K ds _ h2)
  | .tuple ds, _, h => by
    cases h with
    | tup h1 h2 => exact .tup (SqT.of h1) (DqA.dp K ds _ h2)
  | .dict _, _, h => by cases h
theorem DqA.dp (K : PySem.W.Frag) {H : Hp} : ∀ (ds : List PyData) (vs : List V), DqA H vs ds → DpAll K H vs ds
  | [], _, h => by cases h; exact .nil
  | d :: ds, _, h => by
    cases h with
    | cons h1 h2 => exact .cons (Dq.dp K d _ h1) (DqA.dp K ds _ h2)
end
theorem DqA.len {H : Hp} : ∀ {vs : List V} {ds : List PyData}, DqA H vs ds → vs.length = ds.length
  | _, _, .nil => rfl
  | _, _, .cons _ t => by rw [List.length_cons, List.length_cons, DqA.len t]
theorem DqA.get {H : Hp} : ∀ {vs : List V} {ds : List PyData} {i : Nat} {d : PyData}, DqA H vs ds → ds[i]? = some d → ∃ v, vs[i]? = some v ∧ Dq H v d
  | _, _, _, _, .nil, e => by simp at e
  | _, _, 0, _, .cons r _, e => by simp at e; subst e; exact ⟨_, rfl, r⟩
  | _, _, i + 1, d, .cons _ t, e => by
    obtain ⟨u, h1, h2⟩ := DqA.get (i := i) (d := d) t (by simpa using e)
    exact ⟨u, by simpa using h1, h2⟩
theorem DqA.get' {H : Hp} : ∀ {vs : List V} {ds : List PyData} {i : Nat} {v : V}, DqA H vs ds → vs[i]? = some v → ∃ d, ds[i]? = some d ∧ Dq H v d
  | _, _, _, _, .nil, e => by simp at e
  | _, _, 0, _, .cons r _, e => by simp at e; subst e; exact ⟨_, rfl, r⟩
  | _, _, i + 1, d, .cons _ t, e => by
    obtain ⟨u, h1, h2⟩ := DqA.get' (i := i) (v := d) t (by simpa using e)
    exact ⟨u, by simpa using h1, h2⟩
theorem DqA.app {H : Hp} : ∀ {xs ys : List V} {ds es : List PyData}, DqA H xs ds → DqA H ys es → DqA H (xs ++ ys) (ds ++ es)
  | _, _, _, _, .nil, s => s
  | _, _, _, _, .cons r t, s => .cons r (DqA.app t s)
theorem DqA.take {H : Hp} : ∀ {xs : List V} {ds : List PyData} (n : Nat), DqA H xs ds → DqA H (xs.take n) (ds.take n)
  | _, _, 0, _ => .nil
  | _, _, _ + 1, .nil => .nil
  | _, _, n + 1, .cons r t => .cons r (DqA.take n t)
theorem DqA.drop {H : Hp} : ∀ {xs : List V} {ds : List PyData} (n : Nat), DqA H xs ds → DqA H (xs.drop n) (ds.drop n)
  | _, _, 0, r => r
  | _, _, _ + 1, .nil => .nil
  | _, _, n + 1, .cons _ t => DqA.drop n t
theorem DqA.rev {H : Hp} : ∀ {xs : List V} {ds : List PyData}, DqA H xs ds → DqA H xs.reverse ds.reverse
  | _, _, .nil => .nil
  | _, _, .cons r t => by
    rw [List.reverse_cons, List.reverse_cons]
    exact DqA.app (DqA.rev t) (.cons r .nil)
theorem DqA.rep {H : Hp} {xs : List V} {ds : List PyData} (h : DqA H xs ds) : ∀ n : Nat, DqA H (List.replicate n xs).flatten (List.replicate n ds).flatten
  | 0 => .nil
  | n + 1 => by
    rw [List.replicate_succ, List.replicate_succ, List.flatten_cons, List.flatten_cons]
    exact DqA.app h (DqA.rep h n)
theorem DqA.ints {H : Hp} : ∀ {ns : List Int} {vs : List V}, DqA H vs (ns.map PyData.int) → vs = ns.map V.int
  | [], _, h => by cases h; rfl
  | n :: ns, _, h => by
    rw [List.map_cons] at h
    cases h with
    | cons h1 h2 =>
      cases h1
      rw [List.map_cons, DqA.ints h2]
theorem DqA.of_ints {H : Hp} : ∀ (ns : List Int), DqA H (ns.map V.int) (ns.map PyData.int)
  | [] => .nil
  | n :: ns => .cons (.int n) (DqA.of_ints ns)
theorem DqA.bools {H : Hp} : ∀ {ns : List Bool} {vs : List V}, DqA H vs (ns.map PyData.bool) → vs = ns.map V.bl
  | [], _, h => by cases h; rfl
  | n :: ns, _, h => by
    rw [List.map_cons] at h
    cases h with
    | cons h1 h2 =>
      cases h1
      rw [List.map_cons, DqA.bools h2]

/-! ### what is known of the slots -/
inductive Sl where
  | non
  | dat (d : PyData)
  | val (v : V)
def SlOk (H : Hp) : Sl → Option V → Prop
  | .non, _ => True
  | .dat d, some v => Dq H v d
  | .val v, some u => u = v
  | _, none => False
def EnvOk (H : Hp) (σ : L2.St) (Γ : List Sl) : Prop := σ.length = Γ.length ∧ ∀ (i : Nat) s o, Γ[i]? = some s → σ[i]? = some o → SlOk H s o
theorem SlOk.up {H H' : Hp} (e : Ex H H') : ∀ {s : Sl} {o : Option V}, SlOk H s o → SlOk H' s o
  | .non, _, _ => trivial
  | .dat d, some v, h => Dq.up (show Dq H v d from h) e
  | .val v, some u, h => h
  | .dat _, none, h => h
  | .val _, none, h => h
theorem EnvOk.up {H H' : Hp} {σ : L2.St} {Γ : List Sl} (h : EnvOk H σ Γ) (e : Ex H H') : EnvOk H' σ Γ := ⟨h.1, fun i s o h1 h2 => (h.2 i s o h1 h2).up e⟩
theorem EnvOk.dat {H : Hp} {σ : L2.St} {Γ : List Sl} {i : Nat} {d : PyData} (h : EnvOk H σ Γ) (g : Γ[i]? = some (.dat d)) : ∃ v, σ[i]? = some (some v) ∧ Dq H v d := by
  have hi : i < σ.length := by rw [h.1]; exact (List.getElem?_eq_some_iff.mp g).1
  have e : σ[i]? = some σ[i] := List.getElem?_eq_getElem hi
  have q := h.2 i _ _ g e
  cases z : σ[i] with
  | none => rw [z] at q; exact q.elim
  | some v => rw [z] at q e; exact ⟨v, e, q⟩
theorem EnvOk.val {H : Hp} {σ : L2.St} {Γ : List Sl} {i : Nat} {v : V} (h : EnvOk H σ Γ) (g : Γ[i]? = some (.val v)) : σ[i]? = some (some v) := by
  have hi : i < σ.length := by rw [h.1]; exact (List.getElem?_eq_some_iff.mp g).1
  have e : σ[i]? = some σ[i] := List.getElem?_eq_getElem hi
  have q := h.2 i _ _ g e
  cases z : σ[i] with
  | none => rw [z] at q; exact q.elim
  | some u =>
    rw [z] at q e
    have q' : u = v := q
    rw [q'] at e
    exact e
theorem EnvOk.set {H : Hp} {σ : L2.St} {Γ : List Sl} {i : Nat} {s : Sl} {o : Option V} (h : EnvOk H σ Γ) (g : SlOk H s o) : EnvOk H (σ.set i o) (Γ.set i s) := by
  refine ⟨by rw [List.length_set, List.length_set]; exact h.1, fun j s' o' h1 h2 => ?_⟩
  by_cases e : i = j
  · subst e
    have hi : i < Γ.length := by have := (List.getElem?_eq_some_iff.mp h1).1; rwa [List.length_set] at this
    have hj : i < σ.length := by rw [h.1]; exact hi
    rw [List.getElem?_set_self hi] at h1
    rw [List.getElem?_set_self hj] at h2
    cases h1; cases h2
    exact g
  · rw [List.getElem?_set_ne e] at h1 h2
    exact h.2 j s' o' h1 h2
theorem EnvOk.setD {H : Hp} {σ : L2.St} {Γ : List Sl} {i : Nat} {d : PyData} {v : V} (h : EnvOk H σ Γ) (g : Dq H v d) : EnvOk H (σ.set i (some v)) (Γ.set i (.dat d)) := h.set g
theorem EnvOk.setV {H : Hp} {σ : L2.St} {Γ : List Sl} {i : Nat} {v : V} (h : EnvOk H σ Γ) : EnvOk H (σ.set i (some v)) (Γ.set i (.val v)) := h.set (show SlOk H (.val v) (some v) from rfl)
/-- less is known -/
def Less (Γ Γ' : List Sl) : Prop := Γ.length = Γ'.length ∧ ∀ (i : Nat) (s : Sl), Γ'[i]? = some s → s = Sl.non ∨ Γ[i]? = some s
theorem EnvOk.less {H : Hp} {σ : L2.St} {Γ Γ' : List Sl} (h : EnvOk H σ Γ) (l : Less Γ Γ') : EnvOk H σ Γ' := ⟨h.1.trans l.1, fun i s o h1 h2 => by
  exact (l.2 i s h1).elim (fun e => by rw [e]; cases o <;> trivial) fun e => h.2 i s o e h2⟩
def wipeG (Γ : List Sl) : List Nat → List Sl
  | [] => Γ
  | v :: vs => (wipeG Γ vs).set v Sl.non
theorem EnvOk.wipe {H : Hp} {σ : L2.St} {Γ : List Sl} (h : EnvOk H σ Γ) : ∀ vs : List Nat, EnvOk H (wipe σ vs) (wipeG Γ vs)
  | [] => h
  | v :: vs => (EnvOk.wipe h vs).set (show SlOk H .non none from trivial)
theorem envOk_start {H : Hp} {N : List Str} {vs : List V} {ds : List PyData} (h : DqA H vs ds) : EnvOk H (L2.start N vs) (ds.map Sl.dat ++ List.replicate (N.length - ds.length) Sl.non) := by
  have hl := h.len
  refine ⟨by unfold L2.start; simp [hl], fun i s o h1 h2 => ?_⟩
  unfold L2.start at h2
  by_cases hi : i < ds.length
  · have hi' : i < vs.length := by omega
    rw [List.getElem?_append_left (by simpa using hi), List.getElem?_map, List.getElem?_eq_getElem hi] at h1
    rw [List.getElem?_append_left (by simpa using hi'), List.getElem?_map, List.getElem?_eq_getElem hi'] at h2
    cases h1; cases h2
    obtain ⟨v, e, q⟩ := h.get (List.getElem?_eq_getElem hi)
    rw [List.getElem?_eq_getElem hi'] at e
    cases e
    exact q
  · rw [List.getElem?_append_right (by simpa using Nat.le_of_not_lt hi)] at h1
    have := (List.getElem?_eq_some_iff.mp h1)
    obtain ⟨h3, h4⟩ := this
    rw [List.getElem_replicate] at h4
    subst h4
    trivial
end Cv

namespace Cv
open PySem PySem.Spec PyProof.Rows L2
open Evl (Ex)

/-! ### weakest wishes -/
def WE (X : Cx) (e : Expr) (σ : L2.St) (H : Hp) (Q : VK) : Prop := ∀ (pins : List (Addr × Obj)) (s : Shared), Inv X pins σ H s → wpAny (model X.prog X.w) X.A (eval e X.env) (EP X pins σ Q) X.xe s
def WT (X : Cx) (e : Expr) (σ : L2.St) (H : Hp) (Q : Bool → Hp → Prop) : Prop := ∀ (pins : List (Addr × Obj)) (s : Shared), Inv X pins σ H s → wpAny (model X.prog X.w) X.A (isTrue e X.env (eval e X.env)) (TP X pins σ Q) X.xe s
def WA (X : Cx) (es : List Expr) (σ : L2.St) (H : Hp) (Q : List V → Hp → Prop) : Prop := ∀ (pos : Pos) (pins : List (Addr × Obj)) (s : Shared), Inv X pins σ H s → wpAny (model X.prog X.w) X.A (spliced (backTo pos (starEach es X.env))) (AP X pins σ Q) X.xe s
def WS (X : Cx) (sts : List Stmt) (D : Ends) (σ : L2.St) (H : Hp) : Prop := ∀ (pins : List (Addr × Obj)) (s : Shared), Inv X pins σ H s → wpAny (model X.prog X.w) X.A (execs sts X.env) (SP X pins D) X.xe s
/-- the wish for and, or: whatever the whole -/
def WW (X : Cx) (e : Expr) (σ : L2.St) (H : Hp) (Q : Bool → Hp → Prop) : Prop := ∀ (whole : Sem Value) (pins : List (Addr × Obj)) (s : Shared), Inv X pins σ H s → wpAny (model X.prog X.w) X.A (isTrue e X.env whole) (TP X pins σ Q) X.xe s
section
variable {X : Cx} {e : Expr} {es : List Expr} {sts : List Stmt} {σ : L2.St} {H : Hp}
theorem pe_w : PE X e (WE X e) := ⟨fun pins s σ H Q I h => h pins s I⟩
theorem pt_w : PT X e (WT X e) := ⟨fun pins s σ H Q I h => h pins s I⟩
theorem pw_w : PW X e (WW X e) := ⟨fun wh pins s σ H Q I h => h wh pins s I⟩
theorem pa_w : PA X es (WA X es) := ⟨fun pos pins s σ H Q I h => h pos pins s I⟩
theorem pss_w : PSs X sts (WS X sts) := ⟨fun pins s σ H D I h => h pins s I⟩
theorem we_of {t : TE} {Q : VK} (h : PE X e t) (q : t σ H Q) : WE X e σ H Q := fun pins s I => h.run pins s σ H Q I q
theorem wt_of {t : TT} {Q : Bool → Hp → Prop} (h : PT X e t) (q : t σ H Q) : WT X e σ H Q := fun pins s I => h.run pins s σ H Q I q
theorem ww_of {t : TT} {Q : Bool → Hp → Prop} (h : PW X e t) (q : t σ H Q) : WW X e σ H Q := fun wh pins s I => h.run wh pins s σ H Q I q
theorem wa_of {t : TA} {Q : List V → Hp → Prop} (h : PA X es t) (q : t σ H Q) : WA X es σ H Q := fun pos pins s I => h.run pos pins s σ H Q I q
theorem ws_of {t : TS} {D : Ends} (h : PSs X sts t) (q : t D σ H) : WS X sts D σ H := fun pins s I => h.run pins s σ H D I q
theorem ws_cons {st : Stmt} {t : TS} {D : Ends} (h : PS X st t) (q : t { D with nx := WS X sts D } σ H) : WS X (st :: sts) D σ H := ws_of (pss_cons h pss_w) q
end

/-! ### judgements by data -/
def PD (X : Cx) (ex : List Addr) (Γ : List Sl) (e : Expr) (d : PyData) : Prop :=
  ∀ (σ : L2.St) (H : Hp), EnvOk (era ex H) σ Γ → Al ex H → ∀ Q : VK, (∀ v H2, Ex H H2 → Dq (era ex H2) v d → Q v H2) → WE X e σ H Q
def TD (X : Cx) (ex : List Addr) (Γ : List Sl) (e : Expr) (b : Bool) : Prop :=
  ∀ (σ : L2.St) (H : Hp), EnvOk (era ex H) σ Γ → Al ex H → ∀ Q : Bool → Hp → Prop, (∀ H2, Ex H H2 → Q b H2) → WT X e σ H Q
def TW (X : Cx) (ex : List Addr) (Γ : List Sl) (e : Expr) (b : Bool) : Prop :=
  ∀ (σ : L2.St) (H : Hp), EnvOk (era ex H) σ Γ → Al ex H → ∀ Q : Bool → Hp → Prop, (∀ H2, Ex H H2 → Q b H2) → WW X e σ H Q
def AD (X : Cx) (ex : List Addr) (Γ : List Sl) (es : List Expr) (ds : List PyData) : Prop :=
  ∀ (σ : L2.St) (H : Hp), EnvOk (era ex H) σ Γ → Al ex H → ∀ Q : List V → Hp → Prop, (∀ vs H2, Ex H H2 → DqA (era ex H2) vs ds → Q vs H2) → WA X es σ H Q
/-- what stays true while the heap grows -/
structure RO (ex : List Addr) (R : Hp → Prop) : Prop where
  up : ∀ H H', R H → Ex H H' → R H'
  al : ∀ H, R H → Al ex H
def SD (X : Cx) (ex : List Addr) (R : Hp → Prop) (D : Ends) (Γ : List Sl) (sts : List Stmt) : Prop :=
  ∀ (σ : L2.St) (H : Hp), EnvOk (era ex H) σ Γ → R H → WS X sts D σ H

section
variable {X : Cx} {ex : List Addr} {Γ : List Sl} {a b c e : Expr} {pos : Pos} {d d1 d2 : PyData}
theorem PD.to (h : PD X ex Γ e d) (z : d = d1) : PD X ex Γ e d1 := by
  rw [← z]
  exact h
theorem TD.to {x y : Bool} (h : TD X ex Γ e x) (z : x = y) : TD X ex Γ e y := by
  rw [← z]
  exact h
theorem pd_var {x : Str} {i : Nat} (hN : X.N[i]? = some x) (hv : Vis X.env.scope x) (hG : Γ[i]? = some (.dat d)) (hd : (x == ("__debug__" : Str)) = false := by decide) (hcd : (x == ("__classdict__" : Str)) = false := by decide) : PD X ex Γ (.Name x pos) d :=
  fun σ H E A Q q => by
    obtain ⟨v, e1, e2⟩ := E.dat hG
    exact we_of (pe_var hN hv hd hcd) ⟨v, e1, q v H (Evl.Ex.refl H) e2⟩
theorem pd_int {i : Int} {j : Nat} : PD X ex Γ (.Constant (.int i) j pos) (.int i) := fun σ H E A Q q => we_of pe_int (q _ H (Evl.Ex.refl H) (.int i))
theorem pd_none {j : Nat} : PD X ex Γ (.Constant .none j pos) .none := fun σ H E A Q q => we_of pe_non (q _ H (Evl.Ex.refl H) .non)
theorem pd_bool {k : Bool} {j : Nat} : PD X ex Γ (.Constant (.bool k) j pos) (.bool k) := fun σ H E A Q q => we_of pe_bl (q _ H (Evl.Ex.refl H) (.bl k))
theorem pd_glob {x : Str} {i : Int} {t : Tok} (hg : Gl X x) (hm : X.mg x = some (.int i t)) (hd : (x == ("__debug__" : Str)) = false := by decide) : PD X ex Γ (.Name x pos) (.int i) :=
  fun σ H E A Q q => we_of (pe_glob (v := .int i) hg hm ⟨t, rfl⟩ hd) (q _ H (Evl.Ex.refl H) (.int i))
/-- two operands, then an operation upon values -/
theorem pd_bin {op : Operator} {r : R2} (ho : OpR X (binaryOp op) r) (ha : PD X ex Γ a d1) (hb : PD X ex Γ b d2)
    (hr : ∀ (H : Hp) (v w : V), Al ex H → Dq (era ex H) v d1 → Dq (era ex H) w d2 → ∀ Q : VK, (∀ z H2, Ex H H2 → Dq (era ex H2) z d → Q z H2) → r v w H Q) : PD X ex Γ (.BinOp a op b pos) d := fun σ H E A Q q => by
  refine we_of (pe_op ho pe_w pe_w) ?_
  refine ha σ H E A _ fun v H1 e1 h1 => ?_
  refine hb σ H1 (E.up (era_ex e1)) (A.up e1) _ fun w H2 e2 h2 => ?_
  exact hr H2 v w ((A.up e1).up e2) (h1.up (era_ex e2)) h2 Q fun z H3 e3 h3 => q z H3 ((e1.trans e2).trans e3) h3
theorem Dq.inti {H : Hp} {v : V} {i : Int} (h : Dq H v (.int i)) : v = .int i := by cases h; rfl
theorem Dq.booli {H : Hp} {v : V} {i : Bool} (h : Dq H v (.bool i)) : v = .bl i := by cases h; rfl
theorem Dq.noni {H : Hp} {v : V} (h : Dq H v .none) : v = .non := by cases h; rfl
theorem pd_add {i j : Int} (ha : PD X ex Γ a (.int i)) (hb : PD X ex Γ b (.int j)) : PD X ex Γ (.BinOp a .Add b pos) (.int (i + j)) :=
  pd_bin op_add ha hb fun H v w A h1 h2 Q q => by rw [h1.inti, h2.inti]; exact ⟨i, j, rfl, rfl, q _ H (Evl.Ex.refl H) (.int _)⟩
theorem pd_sub {i j : Int} (ha : PD X ex Γ a (.int i)) (hb : PD X ex Γ b (.int j)) : PD X ex Γ (.BinOp a .Sub b pos) (.int (i - j)) :=
  pd_bin op_sub ha hb fun H v w A h1 h2 Q q => by rw [h1.inti, h2.inti]; exact ⟨i, j, rfl, rfl, q _ H (Evl.Ex.refl H) (.int _)⟩
theorem pd_mul {i j : Int} (ha : PD X ex Γ a (.int i)) (hb : PD X ex Γ b (.int j)) (hc : CMulW i j) : PD X ex Γ (.BinOp a .Mult b pos) (.int (i * j)) :=
  pd_bin op_mulW ha hb fun H v w A h1 h2 Q q => by rw [h1.inti, h2.inti]; exact ⟨i, j, rfl, rfl, hc, q _ H (Evl.Ex.refl H) (.int _)⟩
theorem pd_fdiv {i j : Int} (ha : PD X ex Γ a (.int i)) (hb : PD X ex Γ b (.int j)) (hc : CDivW i j) : PD X ex Γ (.BinOp a .FloorDiv b pos) (.int (i / j)) :=
  pd_bin op_fdivW ha hb fun H v w A h1 h2 Q q => by rw [h1.inti, h2.inti]; exact ⟨i, j, rfl, rfl, hc, q _ H (Evl.Ex.refl H) (.int _)⟩
theorem pd_mod {i j : Int} (ha : PD X ex Γ a (.int i)) (hb : PD X ex Γ b (.int j)) (hc : 0 < j) : PD X ex Γ (.BinOp a .Mod b pos) (.int (i % j)) :=
  pd_bin op_mod ha hb fun H v w A h1 h2 Q q => by rw [h1.inti, h2.inti]; exact ⟨i, j, rfl, rfl, hc, q _ H (Evl.Ex.refl H) (.int _)⟩
def CPowW (i j : Int) : Prop := 0 ≤ j ∧ (Builtin.Int.intBits i : Int) * j ≤ 2 ^ 27
theorem op_powW : OpR X (binaryOp .Pow) (rI CPowW fun i j => .int (i ^ j.toNat)) := opI fun _ _ _ _ _ _ _ hc q => pow_int hc.1 hc.2 q
theorem pd_pow {i j : Int} (ha : PD X ex Γ a (.int i)) (hb : PD X ex Γ b (.int j)) (hc : CPowW i j) : PD X ex Γ (.BinOp a .Pow b pos) (.int (i ^ j.toNat)) :=
  pd_bin op_powW ha hb fun H v w A h1 h2 Q q => by rw [h1.inti, h2.inti]; exact ⟨i, j, rfl, rfl, hc, q _ H (Evl.Ex.refl H) (.int _)⟩
theorem pd_neg {i : Int} (ha : PD X ex Γ a (.int i)) : PD X ex Γ (.UnaryOp .USub a pos) (.int (-i)) := fun σ H E A Q q => by
  refine we_of (pe_un un_neg pe_w) ?_
  refine ha σ H E A _ fun v H1 e1 h1 => ?_
  rw [h1.inti]
  exact ⟨i, rfl, q _ H1 e1 (.int _)⟩

/-! ### lists by their address -/
theorem Dq.lsti {H : Hp} {v : V} {ds : List PyData} (h : Dq H v (.list ds)) : ∃ a xs, v = .ref a ∧ H a = some (.lst xs) ∧ DqA H xs ds := by
  cases h with
  | lst h1 h2 => exact ⟨_, _, rfl, h1, h2⟩
theorem Dq.tupi {H : Hp} {v : V} {ds : List PyData} (h : Dq H v (.tuple ds)) : ∃ a xs, v = .ref a ∧ H a = some (.tup xs) ∧ DqA H xs ds := by
  cases h with
  | tup h1 h2 => exact ⟨_, _, rfl, h1, h2⟩
/-- a new list -/
theorem dq_newL {H H2 : Hp} {p : Addr} {xs : List V} {ds : List PyData} (A : Al ex H) (hp : H p = none) (h : DqA (era ex H) xs ds) : Dq (era ex (upd H p (.lst xs))) (.ref p) (.list ds) := by
  refine .lst ?_ (h.up (era_ex (Evl.Ex.new hp)))
  rw [era_at (A.out hp), upd_same]
theorem dq_newT {H H2 : Hp} {p : Addr} {xs : List V} {ds : List PyData} (A : Al ex H) (hp : H p = none) (h : DqA (era ex H) xs ds) : Dq (era ex (upd H p (.tup xs))) (.ref p) (.tuple ds) := by
  refine .tup ?_ (h.up (era_ex (Evl.Ex.new hp)))
  rw [era_at (A.out hp), upd_same]
theorem len_line {n : Nat} (h : n ≤ 100000) : n ≤ sizeLine := Nat.le_trans h (by decide)
theorem pd_cat {ds es : List PyData} (ha : PD X ex Γ a (.list ds)) (hb : PD X ex Γ b (.list es)) (hl : ds.length + es.length ≤ 100000) : PD X ex Γ (.BinOp a .Add b pos) (.list (ds ++ es)) :=
  pd_bin op_cat ha hb fun H v w A h1 h2 Q q => by
    obtain ⟨l, xs, rfl, e1, r1⟩ := h1.lsti
    obtain ⟨m, ys, rfl, e2, r2⟩ := h2.lsti
    refine ⟨l, m, xs, ys, rfl, rfl, (era_some e1).2, (era_some e2).2, len_line (by rw [r1.len, r2.len]; exact hl), fun p hp => ?_⟩
    exact q _ _ (Evl.Ex.new hp) (dq_newL (H2 := H) A hp (r1.app r2))
theorem pd_rep {ds : List PyData} {k : Int} (ha : PD X ex Γ a (.list ds)) (hb : PD X ex Γ b (.int k)) (h0 : -1000 ≤ k) (hk : k ≤ 10000) (hl : ds.length ≤ 10) : PD X ex Γ (.BinOp a .Mult b pos) (.list (List.replicate k.toNat ds).flatten) :=
  pd_bin op_rep ha hb fun H v w A h1 h2 Q q => by
    obtain ⟨l, xs, rfl, e1, r1⟩ := h1.lsti
    rw [h2.inti]
    refine ⟨l, k, xs, rfl, rfl, (era_some e1).2, by omega, by omega, len_line ?_, fun p hp => ?_⟩
    · rw [r1.len]
      have h3 : k.toNat ≤ 10000 := by omega
      exact Nat.le_trans (Nat.mul_le_mul hl h3) (by decide)
    · exact q _ _ (Evl.Ex.new hp) (dq_newL (H2 := H) A hp (r1.rep k.toNat))
/-! ### argument lists, displays -/
theorem ad_nil : AD X ex Γ [] [] := fun σ H E A Q q => wa_of pa_nil (q _ H (Evl.Ex.refl H) .nil)
theorem ad_cons {es : List Expr} {ds : List PyData} (ha : PD X ex Γ e d) (hr : AD X ex Γ es ds) (hs : starEach (e :: es) X.env = (false, eval e X.env) :: starEach es X.env := by rfl) : AD X ex Γ (e :: es) (d :: ds) := fun σ H E A Q q => by
  refine wa_of (pa_cons pe_w pa_w hs) ?_
  refine ha σ H E A _ fun v H1 e1 h1 => ?_
  refine hr σ H1 (E.up (era_ex e1)) (A.up e1) _ fun vs H2 e2 h2 => ?_
  exact q _ H2 (e1.trans e2) (.cons (h1.up (era_ex e2)) h2)
theorem pd_tup {es : List Expr} {ds : List PyData} {k : Nat} (h : AD X ex Γ es ds) (hl : ds.length ≤ 100000 := by first | decide | simp) : PD X ex Γ (.Tuple es k pos) (.tuple ds) := fun σ H E A Q q => by
  refine we_of (pe_tup pa_w) ?_
  refine h σ H E A _ fun vs H1 e1 h1 => ⟨len_line (by rw [h1.len]; exact hl), fun p hp => ?_⟩
  exact q _ _ (e1.trans (Evl.Ex.new hp)) (dq_newT (H2 := H) (A.up e1) hp h1)
theorem pd_lst {es : List Expr} {ds : List PyData} (h : AD X ex Γ es ds) (hl : ds.length ≤ 100000 := by first | decide | simp) : PD X ex Γ (.List es pos) (.list ds) := fun σ H E A Q q => by
  refine we_of (pe_lst pa_w) ?_
  refine h σ H E A _ fun vs H1 e1 h1 => ⟨len_line (by rw [h1.len]; exact hl), fun p hp => ?_⟩
  exact q _ _ (e1.trans (Evl.Ex.new hp)) (dq_newL (H2 := H) (A.up e1) hp h1)
/-! ### subscripts -/
theorem ixN_len {n m : Nat} (h : n = m) (i : Int) : ixN n i = ixN m i := by rw [h]
theorem DqA.atI {H : Hp} {xs : List V} {ds : List PyData} {i : Int} {d : PyData} (h : DqA H xs ds) (e : atI ds i = some d) : ∃ v, L2.atI xs i = some v ∧ Dq H v d := by
  unfold L2.atI at e ⊢
  rw [h.len]
  cases z : ixN ds.length i with
  | none => rw [z] at e; cases e
  | some j =>
    rw [z] at e
    exact h.get e
theorem pd_ixL {ds : List PyData} {i : Int} (ha : PD X ex Γ a (.list ds)) (hb : PD X ex Γ b (.int i)) (hi : L2.atI ds i = some d) (hs : PlainIx b := by exact fun _ _ => rfl) : PD X ex Γ (.Subscript a b pos) d := fun σ H E A Q q => by
  refine we_of (pe_ix ix_list pe_w pe_w hs) ?_
  refine ha σ H E A _ fun v H1 e1 h1 => ?_
  refine hb σ H1 (E.up (era_ex e1)) (A.up e1) _ fun w H2 e2 h2 => ?_
  obtain ⟨l, xs, rfl, f1, r1⟩ := (h1.up (era_ex e2)).lsti
  obtain ⟨z, g1, g2⟩ := r1.atI hi
  rw [h2.inti]
  exact ⟨l, xs, i, z, rfl, rfl, SqL.of (era_some f1).2, g1, q z H2 (e1.trans e2) g2⟩
theorem pd_ixT {ds : List PyData} {i : Int} (ha : PD X ex Γ a (.tuple ds)) (hb : PD X ex Γ b (.int i)) (hi : L2.atI ds i = some d) (hs : PlainIx b := by exact fun _ _ => rfl) : PD X ex Γ (.Subscript a b pos) d := fun σ H E A Q q => by
  refine we_of (pe_ix ix_tup pe_w pe_w hs) ?_
  refine ha σ H E A _ fun v H1 e1 h1 => ?_
  refine hb σ H1 (E.up (era_ex e1)) (A.up e1) _ fun w H2 e2 h2 => ?_
  obtain ⟨l, xs, rfl, f1, r1⟩ := (h1.up (era_ex e2)).tupi
  obtain ⟨z, g1, g2⟩ := r1.atI hi
  rw [h2.inti]
  exact ⟨l, xs, i, z, rfl, rfl, SqT.of (era_some f1).2, g1, q z H2 (e1.trans e2) g2⟩
/-- a slice's part -/
def OD (X : Cx) (ex : List Addr) (Γ : List Sl) (e : Option Expr) (o : Option Int) : Prop :=
  ∀ (σ : L2.St) (H : Hp), EnvOk (era ex H) σ Γ → Al ex H → ∃ t, PO X e t ∧ ∀ Q : Option Int → Hp → Prop, (∀ H2, Ex H H2 → Q o H2) → t σ H Q
def WO (X : Cx) (e : Option Expr) : TO := fun σ H Q => ∃ t, PO X e t ∧ t σ H Q
theorem po_w {e : Option Expr} : PO X e (WO X e) := ⟨fun pins s σ H Q I ⟨t, h, q⟩ => h.run pins s σ H Q I q⟩
theorem od_none : OD X ex Γ none none := fun σ H E A => ⟨_, po_none, fun Q q => q H (Evl.Ex.refl H)⟩
theorem od_some {i : Int} (h : PD X ex Γ e (.int i)) : OD X ex Γ (some e) (some i) := fun σ H E A => ⟨_, po_some pe_w, fun Q q => h σ H E A _ fun v H1 e1 h1 => ⟨i, h1.inti, q H1 e1⟩⟩
def cutD (ds : List PyData) (lo hi : Option Int) : List PyData := (ds.drop (HT.sIx ds.length 0 lo)).take (HT.sIx ds.length ds.length hi - HT.sIx ds.length 0 lo)
theorem DqA.cut {H : Hp} {xs : List V} {ds : List PyData} (h : DqA H xs ds) (lo hi : Option Int) : DqA H (cutV xs lo hi) (cutD ds lo hi) := by
  unfold cutV cutD
  rw [h.len]
  exact (h.drop _).take _
theorem pd_slice {ds : List PyData} {lo hi : Option Expr} {l u : Option Int} {p2 : Pos} (ha : PD X ex Γ a (.list ds)) (hl : OD X ex Γ lo l) (hu : OD X ex Γ hi u) : PD X ex Γ (.Subscript a (.Slice lo hi none p2) pos) (.list (cutD ds l u)) := fun σ H E A Q q => by
  refine we_of (pe_slice sl_list pe_w po_w po_w) ?_
  refine ha σ H E A _ fun v H1 e1 h1 => ?_
  obtain ⟨t1, p1, k1⟩ := hl σ H1 (E.up (era_ex e1)) (A.up e1)
  refine ⟨t1, p1, k1 _ fun H2 e2 => ?_⟩
  obtain ⟨t2, p2, k2⟩ := hu σ H2 ((E.up (era_ex e1)).up (era_ex e2)) ((A.up e1).up e2)
  refine ⟨t2, p2, k2 _ fun H3 e3 => ?_⟩
  obtain ⟨m, xs, rfl, f1, r1⟩ := (h1.up (era_ex (e2.trans e3))).lsti
  refine ⟨m, xs, rfl, SqL.of (era_some f1).2, fun p hp => ?_⟩
  exact q _ _ (((e1.trans e2).trans e3).trans (Evl.Ex.new hp)) (dq_newL (H2 := H) (((A.up e1).up e2).up e3) hp (r1.cut l u))
theorem pd_rev {ds : List PyData} {k : Nat} {p1 p2 p3 : Pos} (ha : PD X ex Γ a (.list ds)) : PD X ex Γ (.Subscript a (.Slice none none (some (.UnaryOp .USub (.Constant (.int 1) k p1) p2)) p3) pos) (.list ds.reverse) := fun σ H E A Q q => by
  refine we_of (pe_revL pe_w) ?_
  refine ha σ H E A _ fun v H1 e1 h1 => ?_
  obtain ⟨m, xs, rfl, f1, r1⟩ := h1.lsti
  refine ⟨m, xs, rfl, SqL.of (era_some f1).2, fun p hp => ?_⟩
  exact q _ _ (e1.trans (Evl.Ex.new hp)) (dq_newL (H2 := H) (A.up e1) hp r1.rev)
end
end Cv

namespace Cv
open PySem PySem.Spec PyProof.Rows L2
open Evl (Ex)

/-! ### shapes of data -/
def shp (k : Nat) (d : PyData) : Prop := d.canLay0 = true ∧ d.depth ≤ k
theorem shp_int (i : Int) : shp 1 (.int i) := ⟨rfl, by show PyData.depth (.int i) ≤ 1; unfold PyData.depth; exact Nat.zero_le _⟩
theorem shp_none : shp 1 .none := ⟨rfl, by show PyData.depth .none ≤ 1; unfold PyData.depth; exact Nat.zero_le _⟩
theorem shp_all {k : Nat} : ∀ {ds : List PyData}, (∀ d ∈ ds, shp k d) → PyData.canLayAll0 ds = true ∧ PyData.depthAll ds ≤ k
  | [], _ => ⟨by unfold PyData.canLayAll0; rfl, by unfold PyData.depthAll; exact Nat.zero_le _⟩
  | d :: ds, h => by
    obtain ⟨h1, h2⟩ := h d List.mem_cons_self
    obtain ⟨h3, h4⟩ := shp_all (ds := ds) fun x hx => h x (List.mem_cons_of_mem _ hx)
    refine ⟨by unfold PyData.canLayAll0; rw [h1, h3]; rfl, ?_⟩
    unfold PyData.depthAll
    exact Nat.max_le.mpr ⟨h2, h4⟩
theorem shp_list {k : Nat} {ds : List PyData} (h : ∀ d ∈ ds, shp k d) : shp (k + 1) (.list ds) := by
  obtain ⟨h1, h2⟩ := shp_all h
  refine ⟨by unfold PyData.canLay0; exact h1, ?_⟩
  unfold PyData.depth
  omega
theorem shp_tup {k : Nat} {ds : List PyData} (h : ∀ d ∈ ds, shp k d) : shp (k + 1) (.tuple ds) := by
  obtain ⟨h1, h2⟩ := shp_all h
  refine ⟨by unfold PyData.canLay0; exact h1, ?_⟩
  unfold PyData.depth
  omega
theorem shp.up {j k : Nat} {d : PyData} (h : shp j d) (l : j ≤ k) : shp k d := ⟨h.1, Nat.le_trans h.2 l⟩
theorem shp.ok {k : Nat} {d : PyData} (h : shp k d) (l : k ≤ 64 := by decide) : SeqAt.shaped d = true := by
  unfold SeqAt.shaped
  rw [h.1, decide_eq_true (Nat.le_trans h.2 l)]
  rfl
theorem shp.refl {k : Nat} {d : PyData} (h : shp k d) : PyData.eqv d d = true := SeqAt.eqv_refl d h.1

section
variable {X : Cx} {ex : List Addr} {Γ : List Sl} {a b c e : Expr} {pos : Pos} {d d1 d2 : PyData} {x y : Bool}
/-! ### comparisons -/
/-- two operands, a comparison upon values -/
theorem pd_cmp {op : CmpOp} {r : R2} (ho : OpR X (compareOp op) r) (hm : behindInMarks op b = false) (ha : PD X ex Γ a d1) (hb : PD X ex Γ b d2)
    (hr : ∀ (H : Hp) (v w : V), Dq (era ex H) v d1 → Dq (era ex H) w d2 → ∀ Q : VK, Q (.bl x) H → r v w H Q) : PD X ex Γ (.Compare a [op] [b] pos) (.bool x) := fun σ H E A Q q => by
  refine we_of (pe_cmpR ho pe_w pe_w hm) ?_
  refine ha σ H E A _ fun v H1 e1 h1 => ?_
  refine hb σ H1 (E.up (era_ex e1)) (A.up e1) _ fun w H2 e2 h2 => ?_
  exact hr H2 v w (h1.up (era_ex e2)) h2 Q (q _ H2 (e1.trans e2) (.bl x))
theorem td_cmp {op : CmpOp} {r : R2} (ho : OpR X (compareOp op) r) (hm : behindInMarks op b = false) (ha : PD X ex Γ a d1) (hb : PD X ex Γ b d2)
    (hr : ∀ (H : Hp) (v w : V), Dq (era ex H) v d1 → Dq (era ex H) w d2 → ∀ Q : VK, Q (.bl x) H → r v w H Q) : TD X ex Γ (.Compare a [op] [b] pos) x := fun σ H E A Q q => by
  refine wt_of (pt_cmpR ho pe_w pe_w hm) ?_
  refine ha σ H E A _ fun v H1 e1 h1 => ?_
  refine hb σ H1 (E.up (era_ex e1)) (A.up e1) _ fun w H2 e2 h2 => ?_
  exact hr H2 v w (h1.up (era_ex e2)) h2 _ ⟨x, rfl, q H2 (e1.trans e2)⟩
theorem Dq.dpK {H : Hp} {v : V} {d : PyData} (K : PySem.W.Frag) (h : Dq (era ex H) v d) : Dp K H v d := (h.up (era_le ex H)).dp K
theorem pd_eq (hu : X.A.units + 64 < cLine) (ha : PD X ex Γ a d1) (hb : PD X ex Γ b d2) (s1 : SeqAt.shaped d1 = true) (s2 : SeqAt.shaped d2 = true) : PD X ex Γ (.Compare a [.Eq] [b] pos) (.bool (PyData.eqv d1 d2)) :=
  pd_cmp (op_eqD hu) (nomark _) ha hb fun H v w h1 h2 Q q => ⟨d1, d2, h1.dpK X.K, h2.dpK X.K, s1, s2, q⟩
theorem td_eq (hu : X.A.units + 64 < cLine) (ha : PD X ex Γ a d1) (hb : PD X ex Γ b d2) (s1 : SeqAt.shaped d1 = true) (s2 : SeqAt.shaped d2 = true) : TD X ex Γ (.Compare a [.Eq] [b] pos) (PyData.eqv d1 d2) :=
  td_cmp (op_eqD hu) (nomark _) ha hb fun H v w h1 h2 Q q => ⟨d1, d2, h1.dpK X.K, h2.dpK X.K, s1, s2, q⟩
theorem td_ne (hu : X.A.units + 64 < cLine) (ha : PD X ex Γ a d1) (hb : PD X ex Γ b d2) (s1 : SeqAt.shaped d1 = true) (s2 : SeqAt.shaped d2 = true) : TD X ex Γ (.Compare a [.NotEq] [b] pos) (!PyData.eqv d1 d2) :=
  td_cmp (op_neD hu) (nomark _) ha hb fun H v w h1 h2 Q q => ⟨d1, d2, h1.dpK X.K, h2.dpK X.K, s1, s2, q⟩
theorem shaped_int (i : Int) : SeqAt.shaped (.int i) = true := (shp_int i).ok
theorem eqv_int (i j : Int) : PyData.eqv (.int i) (.int j) = decide (i = j) := by
  show (i == j) = decide (i = j)
  by_cases h : i = j
  · rw [decide_eq_true h, h]; simp
  · rw [decide_eq_false h]; simpa using h
theorem td_eqI {i j : Int} (hu : X.A.units + 64 < cLine) (ha : PD X ex Γ a (.int i)) (hb : PD X ex Γ b (.int j)) : TD X ex Γ (.Compare a [.Eq] [b] pos) (decide (i = j)) :=
  (td_eq hu ha hb (shaped_int i) (shaped_int j)).to (eqv_int i j)
theorem pd_eqI {i j : Int} (hu : X.A.units + 64 < cLine) (ha : PD X ex Γ a (.int i)) (hb : PD X ex Γ b (.int j)) : PD X ex Γ (.Compare a [.Eq] [b] pos) (.bool (decide (i = j))) :=
  (pd_eq hu ha hb (shaped_int i) (shaped_int j)).to (by rw [eqv_int i j])
theorem td_neI {i j : Int} (hu : X.A.units + 64 < cLine) (ha : PD X ex Γ a (.int i)) (hb : PD X ex Γ b (.int j)) : TD X ex Γ (.Compare a [.NotEq] [b] pos) (!decide (i = j)) :=
  (td_ne hu ha hb (shaped_int i) (shaped_int j)).to (by rw [eqv_int i j])
theorem td_lt {i j : Int} (ha : PD X ex Γ a (.int i)) (hb : PD X ex Γ b (.int j)) : TD X ex Γ (.Compare a [.Lt] [b] pos) (decide (i < j)) :=
  td_cmp op_lt (nomark _) ha hb fun H v w h1 h2 Q q => by rw [h1.inti, h2.inti]; exact ⟨i, j, rfl, rfl, q⟩
theorem td_le {i j : Int} (ha : PD X ex Γ a (.int i)) (hb : PD X ex Γ b (.int j)) : TD X ex Γ (.Compare a [.LtE] [b] pos) (decide (i ≤ j)) :=
  td_cmp op_le (nomark _) ha hb fun H v w h1 h2 Q q => by rw [h1.inti, h2.inti]; exact ⟨i, j, rfl, rfl, q⟩
theorem td_gt {i j : Int} (ha : PD X ex Γ a (.int i)) (hb : PD X ex Γ b (.int j)) : TD X ex Γ (.Compare a [.Gt] [b] pos) (decide (j < i)) :=
  td_cmp op_gt (nomark _) ha hb fun H v w h1 h2 Q q => by rw [h1.inti, h2.inti]; exact ⟨i, j, rfl, rfl, q⟩
theorem td_ge {i j : Int} (ha : PD X ex Γ a (.int i)) (hb : PD X ex Γ b (.int j)) : TD X ex Γ (.Compare a [.GtE] [b] pos) (decide (j ≤ i)) :=
  td_cmp op_ge (nomark _) ha hb fun H v w h1 h2 Q q => by rw [h1.inti, h2.inti]; exact ⟨i, j, rfl, rfl, q⟩
theorem pd_ge {i j : Int} (ha : PD X ex Γ a (.int i)) (hb : PD X ex Γ b (.int j)) : PD X ex Γ (.Compare a [.GtE] [b] pos) (.bool (decide (j ≤ i))) :=
  pd_cmp op_ge (nomark _) ha hb fun H v w h1 h2 Q q => by rw [h1.inti, h2.inti]; exact ⟨i, j, rfl, rfl, q⟩
/-- i <= j <= k -/
theorem td_chain {i j k : Int} (ha : PD X ex Γ a (.int i)) (hb : PD X ex Γ b (.int j)) (hc : PD X ex Γ c (.int k)) (hm : lastMarks [.LtE, .LtE] [b, c] = false := by with_unfolding_all rfl) :
    TD X ex Γ (.Compare a [.LtE, .LtE] [b, c] pos) (decide (i ≤ j) && decide (j ≤ k)) := fun σ H E A Q q => by
  refine wt_of (pt_chain op_le op_le pe_w pe_w pe_w hm) ?_
  refine ha σ H E A _ fun v H1 e1 h1 => ?_
  refine hb σ H1 (E.up (era_ex e1)) (A.up e1) _ fun w H2 e2 h2 => ?_
  rw [h1.inti, h2.inti]
  refine ⟨i, j, rfl, rfl, _, rfl, ?_⟩
  cases z : decide (i ≤ j) with
  | false =>
    refine iteF ⟨false, rfl, ?_⟩
    have q' := q H2 (e1.trans e2)
    rw [z] at q'
    exact q'
  | true =>
    refine iteT (hc σ H2 ((E.up (era_ex e1)).up (era_ex e2)) ((A.up e1).up e2) _ fun u H3 e3 h3 => ?_)
    rw [h3.inti]
    have q' := q H3 ((e1.trans e2).trans e3)
    rw [z] at q'
    exact ⟨j, k, rfl, rfl, _, rfl, q'⟩
theorem pd_chain {i j k : Int} (ha : PD X ex Γ a (.int i)) (hb : PD X ex Γ b (.int j)) (hc : PD X ex Γ c (.int k)) (hm : lastMarks [.LtE, .LtE] [b, c] = false := by with_unfolding_all rfl) :
    PD X ex Γ (.Compare a [.LtE, .LtE] [b, c] pos) (.bool (decide (i ≤ j) && decide (j ≤ k))) := fun σ H E A Q q => by
  refine we_of (pe_chain op_le op_le pe_w pe_w pe_w hm) ?_
  refine ha σ H E A _ fun v H1 e1 h1 => ?_
  refine hb σ H1 (E.up (era_ex e1)) (A.up e1) _ fun w H2 e2 h2 => ?_
  rw [h1.inti, h2.inti]
  refine ⟨i, j, rfl, rfl, _, rfl, ?_⟩
  cases z : decide (i ≤ j) with
  | false =>
    refine iteF ?_
    have q' := q (.bl false) H2 (e1.trans e2)
    rw [z] at q'
    exact q' (.bl _)
  | true =>
    refine iteT (hc σ H2 ((E.up (era_ex e1)).up (era_ex e2)) ((A.up e1).up e2) _ fun u H3 e3 h3 => ?_)
    rw [h3.inti]
    have q' := q (.bl (true && decide (j ≤ k))) H3 ((e1.trans e2).trans e3)
    rw [z] at q'
    exact ⟨j, k, rfl, rfl, q' (.bl _)⟩
def isNoneD : PyData → Bool
  | .none => true
  | _ => false
theorem Dq.isN {H : Hp} {v : V} {d : PyData} (h : Dq H v d) : decide (v = .non) = isNoneD d := by cases h <;> rfl
theorem td_isN {j : Nat} {p2 : Pos} (ha : PD X ex Γ a d) : TD X ex Γ (.Compare a [.Is] [.Constant .none j p2] pos) (isNoneD d) := fun σ H E A Q q => by
  refine wt_of (pt_cmp (pc_isN pe_w)) ?_
  exact ha σ H E A _ fun v H1 e1 h1 => ⟨_, by rw [h1.isN], q H1 e1⟩
theorem td_notN {j : Nat} {p2 : Pos} (ha : PD X ex Γ a d) : TD X ex Γ (.Compare a [.IsNot] [.Constant .none j p2] pos) (!isNoneD d) := fun σ H E A Q q => by
  refine wt_of (pt_cmp (pc_notN pe_w)) ?_
  exact ha σ H E A _ fun v H1 e1 h1 => ⟨_, by rw [h1.isN], q H1 e1⟩

/-! ### and, or, not -/
theorem td_val (h : PD X ex Γ e (.bool x)) (he : ∀ whole, isTrue e X.env whole = (do let v ← whole; standAt e.pos; holding [v] (truthy v)) := by intro _; rfl) : TD X ex Γ e x := fun σ H E A Q q => by
  refine wt_of (pt_val pe_w he) ?_
  exact h σ H E A _ fun v H1 e1 h1 => ⟨x, h1.booli, q H1 e1⟩
theorem td_not (h : TD X ex Γ e x) : TD X ex Γ (.UnaryOp .Not e pos) (!x) := fun σ H E A Q q => by
  refine wt_of (pt_not pt_w) ?_
  exact h σ H E A _ fun H1 e1 => q H1 e1
theorem tw_or1 (h : TD X ex Γ a x) : TW X ex Γ (.BoolOp .Or [a] pos) x := fun σ H E A Q q => by
  refine ww_of (pw_or1 pt_w) ?_
  exact h σ H E A _ q
theorem tw_and1 (h : TD X ex Γ a x) : TW X ex Γ (.BoolOp .And [a] pos) x := fun σ H E A Q q => by
  refine ww_of (pw_and1 pt_w) ?_
  exact h σ H E A _ q
theorem tw_or {rest : List Expr} (h : TD X ex Γ a x) (h2 : x = false → TW X ex Γ (.BoolOp .Or (b :: rest) pos) y) : TW X ex Γ (.BoolOp .Or (a :: b :: rest) pos) (x || y) := fun σ H E A Q q => by
  refine ww_of (pw_or pt_w pw_w) ?_
  refine h σ H E A _ fun H1 e1 => ?_
  cases x with
  | true => exact iteT (q H1 e1)
  | false => exact iteF (h2 rfl σ H1 (E.up (era_ex e1)) (A.up e1) _ fun H2 e2 => q H2 (e1.trans e2))
theorem tw_and {rest : List Expr} (h : TD X ex Γ a x) (h2 : x = true → TW X ex Γ (.BoolOp .And (b :: rest) pos) y) : TW X ex Γ (.BoolOp .And (a :: b :: rest) pos) (x && y) := fun σ H E A Q q => by
  refine ww_of (pw_and pt_w pw_w) ?_
  refine h σ H E A _ fun H1 e1 => ?_
  cases x with
  | false => exact iteF (q H1 e1)
  | true => exact iteT (h2 rfl σ H1 (E.up (era_ex e1)) (A.up e1) _ fun H2 e2 => q H2 (e1.trans e2))
theorem TW.td (h : TW X ex Γ e x) : TD X ex Γ e x := fun σ H E A Q q => by
  refine wt_of (PW.pt pw_w) ?_
  exact h σ H E A _ q
theorem pd_not (h : PD X ex Γ e (.bool x)) : PD X ex Γ (.UnaryOp .Not e pos) (.bool (!x)) := fun σ H E A Q q => by
  refine we_of (pe_not pe_w) ?_
  exact h σ H E A _ fun v H1 e1 h1 => ⟨x, h1.booli, q _ H1 e1 (.bl _)⟩
theorem pd_one {op : BoolOp} (h : PD X ex Γ a d) : PD X ex Γ (.BoolOp op [a] pos) d := fun σ H E A Q q => by
  refine we_of (pe_one pe_w) ?_
  exact h σ H E A _ q
theorem pd_and {rest : List Expr} (h : PD X ex Γ a (.bool x)) (h2 : x = true → PD X ex Γ (.BoolOp .And (b :: rest) pos) (.bool y)) : PD X ex Γ (.BoolOp .And (a :: b :: rest) pos) (.bool (x && y)) := fun σ H E A Q q => by
  refine we_of (pe_and pe_w pe_w) ?_
  refine h σ H E A _ fun v H1 e1 h1 => ⟨x, h1.booli, ?_⟩
  cases x with
  | false => exact iteF (q _ H1 e1 (.bl _))
  | true => exact iteT (h2 rfl σ H1 (E.up (era_ex e1)) (A.up e1) _ fun w H2 e2 h2 => q w H2 (e1.trans e2) h2)
theorem pd_if (h : TD X ex Γ c x) (h1 : x = true → PD X ex Γ a d) (h2 : x = false → PD X ex Γ b d) : PD X ex Γ (.IfExp c a b pos) d := fun σ H E A Q q => by
  refine we_of (pe_ifExp pt_w pe_w pe_w) ?_
  refine h σ H E A _ fun H1 e1 => ?_
  cases x with
  | true => exact iteT (h1 rfl σ H1 (E.up (era_ex e1)) (A.up e1) _ fun w H2 e2 h2 => q w H2 (e1.trans e2) h2)
  | false => exact iteF (h2 rfl σ H1 (E.up (era_ex e1)) (A.up e1) _ fun w H2 e2 h2 => q w H2 (e1.trans e2) h2)

/-! ### built-ins -/
theorem pd_callB {id : String} {r : List V → Hp → VK → Prop} {f : Str} {p : Pos} {es : List Expr} {ds : List PyData} (hc : CallR X (.builtin id) r) (hg : Gl X f) (hm : X.mg f = none) (hv : bootBuiltins f = some (.builtin id)) (ha : AD X ex Γ (e :: es) ds)
    (hr : ∀ (H : Hp) (vs : List V), Al ex H → DqA (era ex H) vs ds → ∀ Q : VK, (∀ z H2, Ex H H2 → Dq (era ex H2) z d → Q z H2) → r vs H Q) (hn : f ≠ "__name__" := by decide) (hdb : (f == ("__debug__" : Str)) = false := by decide)
    (he : starEach (e :: es) X.env = (false, eval e X.env) :: starEach es X.env := by rfl) (hpl : (backTo pos (starEach es X.env)).any (·.1) = false := by rfl) : PD X ex Γ (.Call (.Name f p) (e :: es) [] pos) d := fun σ H E A Q q => by
  refine we_of (pe_callB hc hg hm hv pa_w hn hdb he hpl) ?_
  refine ha σ H E A _ fun vs H1 e1 h1 => ?_
  exact hr H1 vs (A.up e1) h1 Q fun z H2 e2 h2 => q z H2 (e1.trans e2) h2
theorem pd_callTy {id : String} {r : List V → Hp → VK → Prop} {f : Str} {p : Pos} {es : List Expr} {ds : List PyData} (hc : CallR X (.type id) r) (hg : Gl X f) (hm : X.mg f = none) (hv : bootBuiltins f = some (.type id)) (ha : AD X ex Γ (e :: es) ds)
    (hr : ∀ (H : Hp) (vs : List V), Al ex H → DqA (era ex H) vs ds → ∀ Q : VK, (∀ z H2, Ex H H2 → Dq (era ex H2) z d → Q z H2) → r vs H Q) (hn : f ≠ "__name__" := by decide) (hdb : (f == ("__debug__" : Str)) = false := by decide)
    (he : starEach (e :: es) X.env = (false, eval e X.env) :: starEach es X.env := by rfl) (hpl : (backTo pos (starEach es X.env)).any (·.1) = false := by rfl) : PD X ex Γ (.Call (.Name f p) (e :: es) [] pos) d := fun σ H E A Q q => by
  refine we_of (pe_callTy hc hg hm hv pa_w hn hdb he hpl) ?_
  refine ha σ H E A _ fun vs H1 e1 h1 => ?_
  exact hr H1 vs (A.up e1) h1 Q fun z H2 e2 h2 => q z H2 (e1.trans e2) h2
theorem DqA.one {H : Hp} {vs : List V} {d : PyData} (h : DqA H vs [d]) : ∃ v, vs = [v] ∧ Dq H v d := by
  cases h with
  | cons h1 h2 => cases h2; exact ⟨_, rfl, h1⟩
theorem DqA.two {H : Hp} {vs : List V} {d e : PyData} (h : DqA H vs [d, e]) : ∃ v w, vs = [v, w] ∧ Dq H v d ∧ Dq H w e := by
  cases h with
  | cons h1 h2 =>
    obtain ⟨w, rfl, h3⟩ := h2.one
    exact ⟨_, w, rfl, h1, h3⟩
theorem pd_len {p : Pos} {ds : List PyData} (hg : Gl X "len") (hm : X.mg "len" = none) (ha : PD X ex Γ a (.list ds)) (he : starEach [a] X.env = (false, eval a X.env) :: starEach [] X.env := by rfl) : PD X ex Γ (.Call (.Name "len" p) [a] [] pos) (.int (ds.length : Int)) :=
  pd_callB call_len hg hm PySem.boot_len (ad_cons ha ad_nil he) (fun H vs A h Q q => by
    obtain ⟨v, rfl, g⟩ := h.one
    obtain ⟨l, xs, rfl, f1, r1⟩ := g.lsti
    exact ⟨_, xs.length, rfl, .inl ⟨xs, SqL.of (era_some f1).2, rfl⟩, q _ H (Evl.Ex.refl H) (by rw [r1.len]; exact .int _)⟩) (he := he)
theorem pd_lenT {p : Pos} {ds : List PyData} (hg : Gl X "len") (hm : X.mg "len" = none) (ha : PD X ex Γ a (.tuple ds)) (he : starEach [a] X.env = (false, eval a X.env) :: starEach [] X.env := by rfl) : PD X ex Γ (.Call (.Name "len" p) [a] [] pos) (.int (ds.length : Int)) :=
  pd_callB call_len hg hm PySem.boot_len (ad_cons ha ad_nil he) (fun H vs A h Q q => by
    obtain ⟨v, rfl, g⟩ := h.one
    obtain ⟨l, xs, rfl, f1, r1⟩ := g.tupi
    exact ⟨_, xs.length, rfl, .inr ⟨xs, SqT.of (era_some f1).2, rfl⟩, q _ H (Evl.Ex.refl H) (by rw [r1.len]; exact .int _)⟩) (he := he)
theorem pd_sum {p : Pos} {ns : List Int} (hc : X.calm = true) (hg : Gl X "sum") (hm : X.mg "sum" = none) (ha : PD X ex Γ a (.list (ns.map .int))) (he : starEach [a] X.env = (false, eval a X.env) :: starEach [] X.env := by rfl) : PD X ex Γ (.Call (.Name "sum" p) [a] [] pos) (.int ns.sum) :=
  pd_callB (cr_sum hc) hg hm boot_sum (ad_cons ha ad_nil he) (fun H vs A h Q q => by
    obtain ⟨v, rfl, g⟩ := h.one
    obtain ⟨l, xs, rfl, f1, r1⟩ := g.lsti
    have z := r1.ints
    subst z
    exact ⟨l, ns, rfl, SqL.of (era_some f1).2, q _ H (Evl.Ex.refl H) (.int _)⟩) (he := he)
theorem pd_all {p : Pos} {bs : List Bool} (hc : X.calm = true) (hg : Gl X "all") (hm : X.mg "all" = none) (ha : PD X ex Γ a (.list (bs.map .bool))) (he : starEach [a] X.env = (false, eval a X.env) :: starEach [] X.env := by rfl) : PD X ex Γ (.Call (.Name "all" p) [a] [] pos) (.bool (bs.all id)) :=
  pd_callB (cr_all hc) hg hm boot_all (ad_cons ha ad_nil he) (fun H vs A h Q q => by
    obtain ⟨v, rfl, g⟩ := h.one
    obtain ⟨l, xs, rfl, f1, r1⟩ := g.lsti
    have z := r1.bools
    subst z
    exact ⟨l, bs, rfl, SqL.of (era_some f1).2, q _ H (Evl.Ex.refl H) (.bl _)⟩) (he := he)
theorem pd_abs {p : Pos} {i : Int} (hg : Gl X "abs") (hm : X.mg "abs" = none) (ha : PD X ex Γ a (.int i)) (he : starEach [a] X.env = (false, eval a X.env) :: starEach [] X.env := by rfl) : PD X ex Γ (.Call (.Name "abs" p) [a] [] pos) (.int i.natAbs) :=
  pd_callB call_abs hg hm boot_abs (ad_cons ha ad_nil he) (fun H vs A h Q q => by
    obtain ⟨v, rfl, g⟩ := h.one
    rw [g.inti]
    refine ⟨i, rfl, ?_⟩
    have z : (if i < 0 then -i else i) = (i.natAbs : Int) := by split <;> omega
    rw [z]
    exact q _ H (Evl.Ex.refl H) (.int _)) (he := he)
/-- list(xs): a new list of the same -/
theorem pd_list {p : Pos} {ds : List PyData} (hg : Gl X "list") (hm : X.mg "list" = none) (ha : PD X ex Γ a (.list ds)) (he : starEach [a] X.env = (false, eval a X.env) :: starEach [] X.env := by rfl) : PD X ex Γ (.Call (.Name "list" p) [a] [] pos) (.list ds) :=
  pd_callTy call_list_of hg hm boot_list (ad_cons ha ad_nil he) (fun H vs A h Q q => by
    obtain ⟨v, rfl, g⟩ := h.one
    obtain ⟨l, xs, rfl, f1, r1⟩ := g.lsti
    exact ⟨l, xs, rfl, .inl (SqL.of (era_some f1).2), fun z hz => q _ _ (Evl.Ex.new hz) (dq_newL (H2 := H) A hz r1)⟩) (he := he)
end

/-! ### isinstance -/
def tyName : PyData → String
  | .none => "NoneType"
  | .bool _ => "bool"
  | .int _ => "int"
  | .str _ => "str"
  | .list _ => "list"
  | .tuple _ => "tuple"
  | .dict _ => "dict"
theorem Dq.ty {K : PySem.W.Frag} {ex : List Addr} {H : Hp} {v : V} {d : PyData} (h : Dq (era ex H) v d) : TyX K H v (.type (tyName d)) := by
  cases h with
  | non => exact .base .non
  | bl b => exact .base (.bl b)
  | int i => exact .base (.int i)
  | lst h1 h2 => exact .base (.lst (era_some h1).2)
  | tup h1 h2 => exact .base (.tup (era_some h1).2)
section
variable {X : Cx} {ex : List Addr} {Γ : List Sl} {a : Expr} {pos : Pos} {d : PyData} {x : Bool}
/-- isinstance(x, T), T a built-in type -/
theorem pd_isi {p p2 : Pos} {T : String} {tn : Str} (hg : Gl X "isinstance") (hm : X.mg "isinstance" = none) (hg2 : Gl X tn) (hm2 : X.mg tn = none) (hv : bootBuiltins tn = some (.type T)) (ha : PD X ex Γ a d)
    (hk : kitB (tyName d) T = some x) (hn : tn ≠ "__name__" := by decide) (hdb : (tn == ("__debug__" : Str)) = false := by decide) (he : starEach [a, .Name tn p2] X.env = (false, eval a X.env) :: starEach [.Name tn p2] X.env := by rfl)
    (he2 : starEach [.Name tn p2] X.env = (false, eval (.Name tn p2) X.env) :: starEach [] X.env := by rfl) (hpl : (backTo pos (starEach [.Name tn p2] X.env)).any (·.1) = false := by rfl) :
    PD X ex Γ (.Call (.Name "isinstance" p) [a, .Name tn p2] [] pos) (.bool x) := fun σ H E A Q q => by
  refine we_of (pe_callB call_isi hg hm boot_isinstance (pa_cons pe_w (pa_cons (pe_bltn (v := .ty T) hg2 hm2 hv rfl hn hdb) pa_nil he2) he) (he := he) (hpl := hpl)) ?_
  refine ha σ H E A _ fun v H1 e1 h1 => ?_
  exact ⟨v, .ty T, .type (tyName d), .type T, x, rfl, .ty T, h1.ty, kit_ty hk, q _ H1 e1 (.bl x)⟩
end
end Cv

namespace Cv
open PySem PySem.Spec PyProof.Rows L2
open Evl (Ex)

/-! ### promises by data, calls -/
def spD (C : List PyData → PyData → Prop) : Sp := fun vs H Q _ => ∃ (ex : List Addr) (ds : List PyData) (d : PyData), C ds d ∧ Al ex H ∧ DqA (era ex H) vs ds ∧ ∀ v H2, Ex H H2 → Dq (era ex H2) v d → Q v H2
/-- a def by its name -/
structure Dn (P : Program) (w : World) (K : PySem.W.Frag) (mg : Str → Option Value) (base : Heap) (x : Str) (k : Nat) (ps : List Str) (sp : Sp) : Prop where
  ex : ∃ (f : Addr) (fd : FuncData), FnOk P w K mg base CX0 k f fd ps sp ∧ mg x = some (.ref f) ∧ PySem.W.keepIn K (.ref f) = true ∧ Binds K fd ps []
section
variable {X : Cx} {ex : List Addr} {Γ : List Sl} {a b c e : Expr} {pos : Pos} {d : PyData}
theorem pd_call {x : Str} {p : Pos} {k : Nat} {ps : List Str} {C : List PyData → PyData → Prop} {es : List Expr} {ds : List PyData} (F : Dn X.prog X.w X.K X.mg X.base x k ps (spD C)) (hr : Room k X.A) (hg : Gl X x) (ha : AD X ex Γ (e :: es) ds) (hC : C ds d)
    (hdb : (x == ("__debug__" : Str)) = false := by decide) (he : starEach (e :: es) X.env = (false, eval e X.env) :: starEach es X.env := by rfl) (hpl : (backTo pos (starEach es X.env)).any (·.1) = false := by rfl) :
    PD X ex Γ (.Call (.Name x p) (e :: es) [] pos) d := fun σ H E A Q q => by
  obtain ⟨f, fd, F, hm, hk, hb⟩ := F.ex
  refine we_of (pe_call F hr hg hm hk hb .nil pass0 pa_w hdb he hpl) ?_
  refine ha σ H E A _ fun vs H1 e1 h1 => ?_
  rw [List.append_nil]
  exact ⟨ex, ds, d, hC, A.up e1, h1, fun v H2 e2 h2 => q v H2 (e1.trans e2) h2⟩
theorem pd_maxL {p : Pos} {ns : List Int} {m : Int} (hc : X.calm = true) (hg : Gl X "max") (hm : X.mg "max" = none) (ha : PD X ex Γ a (.list (ns.map .int))) (h1 : m ∈ ns) (h2 : ∀ y ∈ ns, y ≤ m) (he : starEach [a] X.env = (false, eval a X.env) :: starEach [] X.env := by rfl) :
    PD X ex Γ (.Call (.Name "max" p) [a] [] pos) (.int m) :=
  pd_callB (cr_max hc) hg hm boot_max (ad_cons ha ad_nil he) (fun H vs A h Q q => by
    obtain ⟨v, rfl, g⟩ := h.one
    obtain ⟨l, xs, rfl, f1, r1⟩ := g.lsti
    have z := r1.ints
    subst z
    refine ⟨l, ns, rfl, SqL.of (era_some f1).2, List.length_pos_of_mem h1, fun m' g1 g2 => ?_⟩
    have e1 : m' = m := Int.le_antisymm (h2 m' g1) (g2 m h1)
    rw [e1]
    exact q _ H (Evl.Ex.refl H) (.int _)) (he := he)
end

/-! ### statements -/
theorem RO.base {ex : List Addr} {M : Hp → Prop} (h : RO ex M) (Hb : Hp) : RO ex (fun H => Ex (era ex Hb) (era ex H) ∧ M H) :=
  ⟨fun H H' q e => ⟨q.1.trans (era_ex e), h.up H H' q.2 e⟩, fun H q => h.al H q.2⟩
/-- a pure def's heaps -/
def RP (ex : List Addr) (H0 : Hp) (H : Hp) : Prop := Ex H0 H ∧ Al ex H
theorem ro_p {ex : List Addr} {H0 : Hp} : RO ex (RP ex H0) := ⟨fun H H' q e => ⟨q.1.trans e, q.2.up e⟩, fun H q => q.2⟩
def NX (ex : List Addr) (Γ : List Sl) (R : Hp → Prop) : L2.St → Hp → Prop := fun σ H => EnvOk (era ex H) σ Γ ∧ R H
section
variable {X : Cx} {ex : List Addr} {R R' : Hp → Prop} {D : Ends} {Γ Γ' : List Sl} {e c : Expr} {pos : Pos} {d : PyData} {rest body els : List Stmt} {b : Bool}
theorem less_refl (Γ : List Sl) : Less Γ Γ := ⟨rfl, fun _ _ h => .inr h⟩
theorem SD.weak (h : SD X ex R' D Γ' rest) (l : Less Γ Γ') (r : ∀ H, R H → R' H) : SD X ex R D Γ rest := fun σ H E q => h σ H (E.less l) (r H q)
theorem sd_nil (h : ∀ σ H, EnvOk (era ex H) σ Γ → R H → D.nx σ H) : SD X ex R D Γ [] := fun σ H E q => ws_of pss_nil (h σ H E q)
theorem sd_end {bk ct : L2.St → Hp → Prop} {rt : VK} : SD X ex R ⟨NX ex Γ R, rt, bk, ct⟩ Γ [] := sd_nil fun σ H E q => ⟨E, q⟩
theorem sd_next {D' : Ends} {bk ct : L2.St → Hp → Prop} {rt : VK} (h : SD X ex R D Γ rest) : SD X ex R ⟨WS X rest D, rt, bk, ct⟩ Γ [] := sd_nil fun σ H E q => h σ H E q
theorem sd_set (i : Nat) {x : Str} {p : Pos} (hR : RO ex R) (hN : X.N.Nodup) (hi : X.N[i]? = some x) (hx : Loc X.env.scope x) (he : PD X ex Γ e d) (k : SD X ex R D (Γ.set i (.dat d)) rest)
    (hs : swapsWith e (some (.Name x p)) pos.line X.env = pure false := by rfl) (hf : X.fn x = true ∨ X.env.scope.names.lookup x = some .local := by first | exact .inl rfl | exact .inr rfl | assumption) :
    SD X ex R D Γ (.Assign [.Name x p] e pos :: rest) := fun σ H E q => by
  refine ws_cons (ps_set hN hi hx pe_w hs hf) ?_
  refine he σ H E (hR.al H q) _ fun v H1 e1 h1 => ?_
  exact k _ H1 ((E.up (era_ex e1)).setD h1) (hR.up H H1 q e1)
theorem sd_ret (hR : RO ex R) (he : PD X ex Γ e d) (k : ∀ v H, R H → Dq (era ex H) v d → D.rt v H) : SD X ex R D Γ (.Return (some e) pos :: rest) := fun σ H E q => by
  refine ws_cons (ps_ret pe_w) ?_
  refine he σ H E (hR.al H q) _ fun v H1 e1 h1 => ?_
  exact k v H1 (hR.up H H1 q e1) h1
theorem sd_expr (hR : RO ex R) (he : PD X ex Γ e d) (k : SD X ex R D Γ rest) (hs : swapsWith e none pos.line X.env = pure false := by rfl) : SD X ex R D Γ (.Expr e pos :: rest) := fun σ H E q => by
  refine ws_cons (ps_expr pe_w hs) ?_
  refine he σ H E (hR.al H q) _ fun v H1 e1 h1 => ?_
  exact k _ H1 (E.up (era_ex e1)) (hR.up H H1 q e1)
theorem sd_if (hR : RO ex R) (hc : TD X ex Γ c b) (h1 : b = true → SD X ex R ⟨WS X rest D, D.rt, D.bk, D.ct⟩ Γ body) (h2 : b = false → SD X ex R ⟨WS X rest D, D.rt, D.bk, D.ct⟩ Γ els) : SD X ex R D Γ (.If c body els pos :: rest) := fun σ H E q => by
  refine ws_cons (ps_if pt_w pss_w pss_w) ?_
  refine hc σ H E (hR.al H q) _ fun H1 e1 => ?_
  cases b with
  | true => exact iteT (h1 rfl σ H1 (E.up (era_ex e1)) (hR.up H H1 q e1))
  | false => exact iteF (h2 rfl σ H1 (E.up (era_ex e1)) (hR.up H H1 q e1))
/-- a test that fails, no else -/
theorem sd_skip (hR : RO ex R) (hc : TD X ex Γ c false) (k : SD X ex R D Γ rest) : SD X ex R D Γ (.If c body [] pos :: rest) :=
  sd_if hR hc (fun z => by cases z) fun _ => sd_next (D' := D) k
/-! ### what is walked -/
def IV (X : Cx) (ex : List Addr) (Γ : List Sl) (tg iter : Expr) (n : Nat) (xd : Nat → PyData) : Prop :=
  ∀ (σ : L2.St) (H : Hp), EnvOk (era ex H) σ Γ → Al ex H → ∃ wi : TI, PI X tg iter wi ∧ ∀ Rk : It → Hp → Prop,
    (∀ (J : It) (H2 : Hp) (Y : Nat → Hp → V → Hp → Prop), Ex H H2 → Walk J n (fun H' => Ex (era ex H2) (era ex H')) Y →
      (∀ i H' v H'', i < n → Ex (era ex H2) (era ex H') → Y i H' v H'' → Ex H' H'' ∧ ∀ ex', Ex (era ex H2) (era ex' H') → Al ex' H' → Dq (era ex' H'') v (xd i)) → Rk J H2) → wi σ H Rk
theorem DqA.at {H : Hp} {xs : List V} {ds : List PyData} (h : DqA H xs ds) {i : Nat} {v : V} (e : xs[i]? = some v) : Dq H v (ds.getD i .none) := by
  obtain ⟨d, h1, h2⟩ := h.get' e
  rw [List.getD_eq_getElem?_getD, h1]
  exact h2
theorem iv_list {tg l : Expr} {ds : List PyData} (h : PD X ex Γ l (.list ds)) : IV X ex Γ tg l ds.length (fun i => ds.getD i .none) := fun σ H E A => by
  refine ⟨_, pi_list pe_w, fun Rk k => ?_⟩
  refine h σ H E A _ fun v H1 e1 h1 => ?_
  obtain ⟨p, xs, rfl, f1, r1⟩ := h1.lsti
  refine ⟨p, rfl, ⟨xs, SqL.of (era_some f1).2⟩, ?_⟩
  refine k _ H1 (YAt xs) e1 ?_ fun i H' v H'' hi eH y => ?_
  · rw [← r1.len]
    exact walk_list.mono (fun H' q => SqL.of (era_some (q p _ f1)).2) fun i H x H' hi _ y => y
  · obtain ⟨rfl, y⟩ := y
    exact ⟨Evl.Ex.refl _, fun ex' g A' => (r1.at y).up g⟩
theorem boot_rng : bootBuiltins "range" = some (.type "range") := boot_range
theorem iv_range1 {tg : Expr} {p : Pos} {j : Int} (hg : Gl X "range") (hm : X.mg "range" = none) (h : PD X ex Γ e (.int j)) (hj : -1000000 ≤ j ∧ j ≤ 1000000) (hs : starEach [e] X.env = [(false, eval e X.env)] := by rfl) :
    IV X ex Γ tg (.Call (.Name "range" p) [e] [] pos) j.toNat (fun i => .int (i : Nat)) := fun σ H E A => by
  refine ⟨_, pi_range1 hg hm pa_w hs, fun Rk k => ?_⟩
  refine ad_cons h ad_nil hs σ H E A _ fun vs H1 e1 h1 => ?_
  obtain ⟨v, rfl, g⟩ := h1.one
  rw [g.inti]
  refine ⟨j, rfl, by omega, by omega, ?_⟩
  refine k _ H1 (YFn fun i => .int (0 + i)) e1 (walk_range.mono (fun _ _ => trivial) fun i H x H' hi _ y => y) fun i H' v H'' hi eH y => ?_
  obtain ⟨rfl, rfl⟩ := y
  refine ⟨Evl.Ex.refl _, fun ex' g A' => ?_⟩
  show Dq (era ex' H'') (V.int ((0 : Int) + (i : Nat))) (.int (i : Nat))
  rw [show (0 : Int) + (i : Nat) = (i : Nat) by omega]
  exact .int _
theorem iv_range2 {tg e2 : Expr} {p : Pos} {lo j : Int} (hg : Gl X "range") (hm : X.mg "range" = none) (h : PD X ex Γ e (.int lo)) (h2 : PD X ex Γ e2 (.int j)) (hl : -1000000 ≤ lo ∧ lo ≤ 1000000) (hj : -1000000 ≤ j ∧ j ≤ 1000000)
    (hs : starEach [e, e2] X.env = [(false, eval e X.env), (false, eval e2 X.env)] := by rfl) (hs2 : starEach [e2] X.env = [(false, eval e2 X.env)] := by rfl) :
    IV X ex Γ tg (.Call (.Name "range" p) [e, e2] [] pos) (j - lo).toNat (fun i => .int (lo + (i : Nat))) := fun σ H E A => by
  refine ⟨_, pi_range2 hg hm pa_w hs hs2, fun Rk k => ?_⟩
  refine ad_cons h (ad_cons h2 ad_nil hs2) (by rw [hs, hs2]) σ H E A _ fun vs H1 e1 h1 => ?_
  obtain ⟨v, w', rfl, g, g'⟩ := h1.two
  rw [g.inti, g'.inti]
  refine ⟨lo, j, rfl, ⟨by omega, by omega, by omega, by omega⟩, ?_⟩
  refine k _ H1 (YFn fun i => .int (lo + i)) e1 (walk_range.mono (fun _ _ => trivial) fun i H x H' hi _ y => y) fun i H' v H'' hi eH y => ?_
  obtain ⟨rfl, rfl⟩ := y
  exact ⟨Evl.Ex.refl _, fun ex' g A' => .int _⟩
/-- range(lo, j, c), c positive -/
theorem iv_range3 {tg e2 e3 : Expr} {p : Pos} {lo j c : Int} {n : Nat} (hg : Gl X "range") (hm : X.mg "range" = none) (h : PD X ex Γ e (.int lo)) (h2 : PD X ex Γ e2 (.int j)) (h3 : PD X ex Γ e3 (.int c)) (hc : RgC lo j c n)
    (hs : starEach [e, e2, e3] X.env = (false, eval e X.env) :: starEach [e2, e3] X.env := by rfl) (hs2 : starEach [e2, e3] X.env = (false, eval e2 X.env) :: starEach [e3] X.env := by rfl) (hs3 : starEach [e3] X.env = (false, eval e3 X.env) :: starEach [] X.env := by rfl)
    (hpl : (backTo pos (starEach [e2, e3] X.env)).any (·.1) = false := by rfl) :
    IV X ex Γ tg (.Call (.Name "range" p) [e, e2, e3] [] pos) n (fun i => .int (lo + (i : Nat) * c)) := fun σ H E A => by
  refine ⟨_, pi_range3 hg hm pa_w hs hpl, fun Rk k => ?_⟩
  refine ad_cons h (ad_cons h2 (ad_cons h3 ad_nil hs3) hs2) hs σ H E A _ fun vs H1 e1 h1 => ?_
  cases h1 with
  | cons g1 h1 =>
    obtain ⟨w1, w2, rfl, g2, g3⟩ := h1.two
    rw [g1.inti, g2.inti, g3.inti]
    refine ⟨lo, j, c, n, rfl, hc, ?_⟩
    refine k _ H1 (YFn fun i => .int (lo + (i : Nat) * c)) e1 (walk_rangeC.mono (fun _ _ => trivial) fun i H x H' hi _ y => y) fun i H' v H'' hi eH y => ?_
    obtain ⟨rfl, rfl⟩ := y
    exact ⟨Evl.Ex.refl _, fun ex' g A' => .int _⟩
theorem pair_item {ex' : List Addr} {H H' H'' : Hp} {T : Addr} {x y : V} {d1 d2 : PyData} (hT : H' T = none) (e : H'' = upd H' T (.tup [x, y])) (h1 : Dq (era ex' H') x d1) (h2 : Dq (era ex' H') y d2) (A : Al ex' H') : Dq (era ex' H'') (.ref T) (.tuple [d1, d2]) := by
  subst e
  exact dq_newT (H2 := H) A hT (.cons h1 (.cons h2 .nil))
theorem iv_enum {elts : List Expr} {kk : Nat} {tpos p : Pos} {ds : List PyData} (hg : Gl X "enumerate") (hm : X.mg "enumerate" = none) (h : PD X ex Γ e (.list ds)) (hs : starEach [e] X.env = [(false, eval e X.env)] := by rfl) :
    IV X ex Γ (.Tuple elts kk tpos) (.Call (.Name "enumerate" p) [e] [] pos) ds.length (fun i => .tuple [.int (i : Nat), ds.getD i .none]) := fun σ H E A => by
  refine ⟨_, pi_enum hg hm pa_w hs, fun Rk k => ?_⟩
  refine ad_cons h ad_nil hs σ H E A _ fun vs H1 e1 h1 => ?_
  obtain ⟨v, rfl, g⟩ := h1.one
  obtain ⟨a, xs, rfl, f1, r1⟩ := g.lsti
  refine ⟨a, xs, rfl, SqL.of (era_some f1).2, ?_⟩
  refine k _ H1 (YPair (fun i => some (.int (i : Nat))) (fun i => xs[i]?)) e1 ?_ fun i H' v H'' hi eH y => ?_
  · rw [← r1.len]
    exact walk_enum.mono (fun H' q => SqL.of (era_some (q a _ f1)).2) fun i H x H' hi _ y => y
  · obtain ⟨T, x, z, rfl, hT, rfl, e2, e3⟩ := y
    cases e2
    exact ⟨Evl.Ex.new hT, fun ex' g A' => pair_item (H := H) hT rfl (.int _) ((r1.at e3).up g) A'⟩
theorem iv_zip {elts : List Expr} {kk : Nat} {tpos p : Pos} {e2 : Expr} {ds es : List PyData} (hg : Gl X "zip") (hm : X.mg "zip" = none) (h : PD X ex Γ e (.list ds)) (h2 : PD X ex Γ e2 (.list es))
    (hs : starEach [e, e2] X.env = (false, eval e X.env) :: starEach [e2] X.env := by rfl) (hs2 : starEach [e2] X.env = (false, eval e2 X.env) :: starEach [] X.env := by rfl) (hpl : (backTo pos (starEach [e2] X.env)).any (·.1) = false := by rfl) :
    IV X ex Γ (.Tuple elts kk tpos) (.Call (.Name "zip" p) [e, e2] [] pos) (min ds.length es.length) (fun i => .tuple [ds.getD i .none, es.getD i .none]) := fun σ H E A => by
  refine ⟨_, pi_zip hg hm pa_w hs hpl, fun Rk k => ?_⟩
  refine ad_cons h (ad_cons h2 ad_nil hs2) hs σ H E A _ fun vs H1 e1 h1 => ?_
  obtain ⟨v, w', rfl, g, g'⟩ := h1.two
  obtain ⟨a, xs, rfl, f1, r1⟩ := g.lsti
  obtain ⟨a2, ys, rfl, f2, r2⟩ := g'.lsti
  refine ⟨a, a2, xs, ys, rfl, SqL.of (era_some f1).2, SqL.of (era_some f2).2, ?_⟩
  refine k _ H1 (YPair (fun i => xs[i]?) (fun i => ys[i]?)) e1 ?_ fun i H' v H'' hi eH y => ?_
  · refine (walk_zip (xs := xs) (ys := ys) (by rw [r1.len, r2.len])).mono (fun H' q => ⟨SqL.of (era_some (q a _ f1)).2, SqL.of (era_some (q a2 _ f2)).2⟩) fun i H x H' hi _ y => y
  · obtain ⟨T, x, z, rfl, hT, rfl, e2, e3⟩ := y
    exact ⟨Evl.Ex.new hT, fun ex' g A' => pair_item (H := H) hT rfl ((r1.at e2).up g) ((r2.at e3).up g) A'⟩
end
end Cv

namespace Cv
open PySem PySem.Spec PyProof.Rows L2
open Evl (Ex)

/-! ### comprehensions -/
def FE (X : Cx) (scope : Scope) (e : Expr) : TE := fun σ H Q => ∀ (s : Shared) (H0 : Hp) (C : Addr) (cl : List (Str × Addr)) (fp : List Addr), WE (X.blk s H0 scope (compEnvC scope cl C X.env) fp) e σ H Q
def FT (X : Cx) (scope : Scope) (e : Expr) : TT := fun σ H Q => ∀ (s : Shared) (H0 : Hp) (C : Addr) (cl : List (Str × Addr)) (fp : List Addr), WT (X.blk s H0 scope (compEnvC scope cl C X.env) fp) e σ H Q
/-- in a comprehension's block -/
def PB (X : Cx) (scope : Scope) (ex : List Addr) (Γ : List Sl) (e : Expr) (d : PyData) : Prop :=
  ∀ (s : Shared) (H0 : Hp) (C : Addr) (cl : List (Str × Addr)) (fp : List Addr), PD (X.blk s H0 scope (compEnvC scope cl C X.env) fp) ex Γ e d
def TB (X : Cx) (scope : Scope) (ex : List Addr) (Γ : List Sl) (e : Expr) (b : Bool) : Prop :=
  ∀ (s : Shared) (H0 : Hp) (C : Addr) (cl : List (Str × Addr)) (fp : List Addr), TD (X.blk s H0 scope (compEnvC scope cl C X.env) fp) ex Γ e b
def GB (X : Cx) (scope : Scope) (tg : Expr) (g : TG) : Prop :=
  ∀ (s : Shared) (H0 : Hp) (C : Addr) (cl : List (Str × Addr)) (fp : List Addr), PG (X.blk s H0 scope (compEnvC scope cl C X.env) fp) tg g
/-- the target's reading within the block -/
def GOk (g : TG) (vs : List Nat) (Γ : List Sl) (n : Nat) (xd : Nat → PyData) (Γ' : Nat → List Sl) : Prop :=
  ∀ (ex : List Addr) (σ : L2.St) (H : Hp) (v : V) (i : Nat), i < n → EnvOk (era ex H) σ Γ → Dq (era ex H) v (xd i) → ∀ Q : L2.St → Hp → Prop, (∀ σ', EnvOk (era ex H) σ' (Γ' i) → wipe σ' vs = wipe σ vs → Q σ' H) → g v (wipe σ vs) H Q
/-- the tests' reading -/
def TOk (ex : List Addr) (tt : TT) (n : Nat) (Γ' : Nat → List Sl) (f : Nat → Bool) : Prop :=
  ∀ (D : Addr) (σ : L2.St) (H : Hp) (i : Nat), i < n → EnvOk (era (D :: ex) H) σ (Γ' i) → Al (D :: ex) H → ∀ Q : Bool → Hp → Prop, (∀ H2, Ex H H2 → Q (f i) H2) → tt σ H Q
structure LC (X : Cx) (ex : List Addr) (Γ : List Sl) (elt tg iter : Expr) (ifs : List Expr) (scope : Scope) (own : List (Str × Nat)) (ds : List PyData) : Prop where
  blk : BlkOk X.N X.env.scope scope own
  run : ∀ (σ : L2.St) (H : Hp), EnvOk (era ex H) σ Γ → Al ex H → ∃ (wi : TI) (g : TG) (tt : TT) (te : TE), PI X tg iter wi ∧ GB X scope tg g ∧
    (∀ (s : Shared) (H : Hp) (C : Addr) (cl : List (Str × Addr)) (fp : List Addr), PTs (X.blk s H scope (compEnvC scope cl C X.env) fp) ifs tt) ∧
    (∀ (s : Shared) (H : Hp) (C : Addr) (cl : List (Str × Addr)) (fp : List Addr), PE (X.blk s H scope (compEnvC scope cl C X.env) fp) elt te) ∧
    ∀ Q : VK, (∀ v H2, Ex H H2 → Dq (era ex H2) v (.list ds) → Q v H2) → tLc wi g tt te (own.map (·.2)) σ H Q
theorem lc_core_read {X : Cx} {ex : List Addr} {Γ : List Sl} {elt tg iter : Expr} {ifs : List Expr} {scope : Scope} {own : List (Str × Nat)} {n : Nat} {xd yd : Nat → PyData} {f : Nat → Bool} {g : TG} {tt : TT} {Γ' : Nat → List Sl} (hn : n ≤ 50000)
    (hb : BlkOk X.N X.env.scope scope own) (hi : IV X ex Γ tg iter n xd) (hg : GB X scope tg g) (hgo : GOk g (own.map (·.2)) Γ n xd Γ')
    (ht : ∀ (s : Shared) (H : Hp) (C : Addr) (cl : List (Str × Addr)) (fp : List Addr), PTs (X.blk s H scope (compEnvC scope cl C X.env) fp) ifs tt) (hto : TOk ex tt n Γ' f)
    (he : ∀ i, i < n → f i = true → ∀ D, PB X scope (D :: ex) (Γ' i) elt (yd i)) : LC X ex Γ elt tg iter ifs scope own (((List.range n).filter f).map yd) := by
  refine ⟨hb, fun σ H E A => ?_⟩
  obtain ⟨wi, hwi, hrd⟩ := hi σ H E A
  refine ⟨wi, g, tt, FE X scope elt, hwi, hg, ht, fun s H C cl fp => ⟨fun pins s' σ' H' Q I h => h s H C cl fp pins s' I⟩, fun Q q => ?_⟩
  refine hrd _ fun J H2 Y e2 W hY => ?_
  intro D hD
  have A2 := A.up e2
  refine lc_it W (fun i H' => Ex H2 H' ∧ ∃ acc, H' D = some (.lst acc) ∧ DqA (era (D :: ex) H') acc (((List.range i).filter f).map yd)) ⟨Evl.Ex.new hD, [], upd_same, .nil⟩ (fun i H' hi p => ?_) (fun i x H' H'' hi p y => ?_) (fun H' p => ?_)
  · exact era_ex p.1
  · obtain ⟨pe, acc, pD, pA⟩ := p
    obtain ⟨e3, hx⟩ := hY i H' x H'' hi (era_ex pe) y
    have AD' : Al (D :: ex) H' := (A2.up pe).cons pD
    have AD'' : Al (D :: ex) H'' := AD'.up e3
    have E'' : EnvOk (era (D :: ex) H'') σ Γ := (E.up (era_ex e2)).up (era_hide (pe.trans e3) hD)
    have hx' := hx (D :: ex) (era_hide pe hD) AD'
    refine hgo (D :: ex) σ H'' x i hi E'' hx' _ fun σ' E' hw => ⟨hw, ?_⟩
    refine hto D σ' H'' i hi E' AD'' _ fun H3 e4 => ?_
    have acc3 : H3 D = some (.lst acc) := e4 D _ (e3 D _ pD)
    have pA3 := (pA.up (era_ex (e3.trans e4)))
    cases hf : f i with
    | false =>
      refine iteF ⟨(pe.trans e3).trans e4, acc, acc3, ?_⟩
      rw [List.range_succ, List.filter_append, List.map_append, List.filter_cons, hf]
      simpa using pA3
    | true =>
      refine iteT ?_
      intro s0 H0 C cl fp
      refine he i hi hf D s0 H0 C cl fp σ' H3 (E'.up (era_ex e4)) (AD''.up e4) _ fun v H4 e5 hv => ?_
      refine ⟨acc, e5 D _ acc3, ?_, ?_⟩
      · rw [pA.len, List.length_map]
        have h1 := List.length_filter_le f (List.range i)
        rw [List.length_range] at h1
        exact Nat.lt_of_lt_of_le (Nat.lt_of_le_of_lt h1 (by omega : i < 100000)) (by decide)
      · refine ⟨(((pe.trans e3).trans e4).trans e5).mut hD, acc ++ [v], upd_same, ?_⟩
        rw [era_upd List.mem_cons_self, List.range_succ, List.filter_append, List.map_append, List.filter_cons, hf]
        exact (pA3.up (era_ex e5)).app (.cons hv .nil)
  · obtain ⟨pe, acc, pD, pA⟩ := p
    refine q _ _ (e2.trans pe) (.lst ?_ (pA.up era_show))
    rw [era_at (A2.out hD)]
    exact pD
theorem wipe1 {σ : L2.St} {j : Nat} {o : Option V} : wipe ((wipe σ [j]).set j o) [j] = wipe σ [j] := by
  show (((σ.set j none).set j o).set j none) = σ.set j none
  rw [List.set_set, List.set_set]
theorem gok_name {j : Nat} {Γ : List Sl} {n : Nat} {xd : Nat → PyData} : GOk (gName j) [j] Γ n xd (fun i => (wipeG Γ [j]).set j (.dat (xd i))) := fun ex σ H v i hi E hv Q q =>
  q _ ((E.wipe [j]).setD hv) wipe1
theorem set_comm' {σ : L2.St} {i j : Nat} {a b : Option V} (h : i ≠ j) : (σ.set i a).set j b = (σ.set j b).set i a := List.set_comm _ _ h
theorem wipe2 {σ : L2.St} {i j : Nat} {a b : Option V} (h : i ≠ j) : wipe (((wipe σ [i, j]).set i a).set j b) [i, j] = wipe σ [i, j] := by
  show (((((σ.set j none).set i none).set i a).set j b).set j none).set i none = (σ.set j none).set i none
  rw [List.set_set, List.set_set, set_comm' h, List.set_set, List.set_set]
theorem gok_pair {K : PySem.W.Frag} {i j : Nat} (hij : i ≠ j) {Γ : List Sl} {n : Nat} {d1 d2 : Nat → PyData} : GOk (gTup K 2 (gCons (gName i) (gCons (gName j) gNil))) [i, j] Γ n (fun k => .tuple [d1 k, d2 k])
    (fun k => ((wipeG Γ [i, j]).set i (.dat (d1 k))).set j (.dat (d2 k))) := fun ex σ H v k hk E hv Q q => by
  obtain ⟨a, xs, rfl, f1, r1⟩ := hv.tupi
  obtain ⟨x, y, rfl, g1, g2⟩ := r1.two
  refine ⟨a, [x, y], rfl, SqT.of (era_some f1).2, rfl, x, [y], rfl, y, [], rfl, rfl, ?_⟩
  exact q _ (((E.wipe [i, j]).setD g1).setD g2) (wipe2 hij)
theorem tok_yes {ex : List Addr} {n : Nat} {Γ' : Nat → List Sl} : TOk ex tYes n Γ' (fun _ => true) := fun D σ H i hi E A Q q => q H (Evl.Ex.refl H)
theorem filter_true {α : Type} (l : List α) : l.filter (fun _ => true) = l := by
  induction l with
  | nil => rfl
  | cons a r ih => rw [List.filter_cons, if_pos rfl, ih]
section
variable {X : Cx} {ex : List Addr} {Γ : List Sl} {elt iter c : Expr} {scope : Scope} {n : Nat} {xd yd d1 d2 : Nat → PyData} {f : Nat → Bool}
/-- [elt for x in iter] -/
theorem lc_one {x : Str} {tp : Pos} {j : Nat} (hb : BlkOk X.N X.env.scope scope [(x, j)]) (hi : IV X ex Γ (.Name x tp) iter n xd) (hn : n ≤ 50000) (hg : GB X scope (.Name x tp) (gName j))
    (he : ∀ i, i < n → ∀ D, PB X scope (D :: ex) ((wipeG Γ [j]).set j (.dat (xd i))) elt (yd i)) : LC X ex Γ elt (.Name x tp) iter [] scope [(x, j)] ((List.range n).map yd) := by
  have h := lc_core_read (f := fun _ => true) hn hb hi hg (gok_name (j := j)) (fun _ _ _ _ _ => pts_nil) tok_yes (fun i hi' _ D => he i hi' D)
  rw [filter_true] at h
  exact h
/-- [elt for x in iter if c] -/
theorem lc_if {x : Str} {tp : Pos} {j : Nat} (hb : BlkOk X.N X.env.scope scope [(x, j)]) (hi : IV X ex Γ (.Name x tp) iter n xd) (hn : n ≤ 50000) (hg : GB X scope (.Name x tp) (gName j))
    (hc : ∀ i, i < n → ∀ D, TB X scope (D :: ex) ((wipeG Γ [j]).set j (.dat (xd i))) c (f i))
    (he : ∀ i, i < n → f i = true → ∀ D, PB X scope (D :: ex) ((wipeG Γ [j]).set j (.dat (xd i))) elt (yd i)) : LC X ex Γ elt (.Name x tp) iter [c] scope [(x, j)] (((List.range n).filter f).map yd) :=
  lc_core_read hn hb hi hg (gok_name (j := j)) (fun s H C cl fp => pts_one ⟨fun pins s' σ' H' Q I h => (show FT X scope c σ' H' Q from h) s H C cl fp pins s' I⟩)
    (fun D σ H i hi E A Q q s0 H0 C cl fp => hc i hi D s0 H0 C cl fp σ H E A Q q) he
/-- [elt for x, y in iter] -/
theorem lc_pair {x y : Str} {px py tp : Pos} {kk i j : Nat} (hij : i ≠ j) (hb : BlkOk X.N X.env.scope scope [(x, i), (y, j)]) (hi : IV X ex Γ (.Tuple [.Name x px, .Name y py] kk tp) iter n (fun k => .tuple [d1 k, d2 k])) (hn : n ≤ 50000)
    (hg : GB X scope (.Tuple [.Name x px, .Name y py] kk tp) (gTup X.K 2 (gCons (gName i) (gCons (gName j) gNil))))
    (he : ∀ k, k < n → ∀ D, PB X scope (D :: ex) (((wipeG Γ [i, j]).set i (.dat (d1 k))).set j (.dat (d2 k))) elt (yd k)) : LC X ex Γ elt (.Tuple [.Name x px, .Name y py] kk tp) iter [] scope [(x, i), (y, j)] ((List.range n).map yd) := by
  have h := lc_core_read (f := fun _ => true) hn hb hi hg (gok_pair hij) (fun _ _ _ _ _ => pts_nil) tok_yes (fun i hi' _ D => he i hi' D)
  rw [filter_true] at h
  exact h
theorem pd_lc {tg : Expr} {ifs : List Expr} {own : List (Str × Nat)} {ds : List PyData} {pos : Pos} (hc : X.calm = true) (hN : X.N.Nodup) (h : LC X ex Γ elt tg iter ifs scope own ds) (hs : ∀ x, foldedSetIterable iter X.env x = pure x := by intro _; rfl) :
    PD X ex Γ (.ListComp elt [⟨tg, iter, ifs, 0⟩] scope pos) (.list ds) := fun σ H E A Q q => by
  obtain ⟨wi, g, tt, te, h1, h2, h3, h4, h5⟩ := h.run σ H E A
  exact we_of (pe_lc hc hN h1 h.blk h2 h3 h4 hs) (h5 Q q)
/-- y = [..] -/
theorem sd_setLc {R : Hp → Prop} {D : Ends} {rest : List Stmt} {tg : Expr} {ifs : List Expr} {own : List (Str × Nat)} {ds : List PyData} {pos spos py : Pos} {y : Str} (i : Nat) (hR : RO ex R) (hc : X.calm = true) (hN : X.N.Nodup) (hy : X.N[i]? = some y) (hyl : X.env.scope.names.lookup y = some .local)
    (hsw : swapsWith (.ListComp elt [⟨tg, iter, ifs, 0⟩] scope pos) (some (.Name y py)) spos.line X.env = pure true) (h : LC X ex Γ elt tg iter ifs scope own ds) (k : SD X ex R D (Γ.set i (.dat (.list ds))) rest) (hs : ∀ x, foldedSetIterable iter X.env x = pure x := by intro _; rfl) :
    SD X ex R D Γ (.Assign [.Name y py] (.ListComp elt [⟨tg, iter, ifs, 0⟩] scope pos) spos :: rest) := fun σ H E q => by
  obtain ⟨wi, g, tt, te, h1, h2, h3, h4, h5⟩ := h.run σ H E (hR.al H q)
  refine ws_cons (ps_setLc hc hN hy hyl hsw h1 h.blk h2 h3 h4 hs) ?_
  exact h5 _ fun v H1 e1 hv => k _ H1 ((E.up (era_ex e1)).setD hv) (hR.up H H1 q e1)
end

/-! ### for, while -/
section
variable {X : Cx} {ex : List Addr} {R : Hp → Prop} {D : Ends} {Γ : List Sl} {c iter tg : Expr} {pos : Pos} {rest body : List Stmt} {n : Nat} {xd : Nat → PyData}
/-- a target's reading in the frame -/
def GFr (X : Cx) (ex : List Addr) (tg : Expr) (n : Nat) (xd : Nat → PyData) (Γ Γ' : Nat → List Sl) : Prop :=
  ∃ g : TG, PG X tg g ∧ ∀ (σ : L2.St) (H : Hp) (v : V) (i : Nat), i < n → EnvOk (era ex H) σ (Γ i) → Dq (era ex H) v (xd i) → ∀ Q : L2.St → Hp → Prop, (∀ σ', EnvOk (era ex H) σ' (Γ' i) → Q σ' H) → g v σ H Q
theorem gfr_name (j : Nat) {x : Str} {tp : Pos} {G : Nat → List Sl} (hN : X.N.Nodup) (hi : X.N[j]? = some x) (hx : Loc X.env.scope x) (hf : X.fn x = true ∨ X.env.scope.names.lookup x = some .local := by first | exact .inl rfl | exact .inr rfl | assumption) :
    GFr X ex (.Name x tp) n xd G (fun i => (G i).set j (.dat (xd i))) := ⟨_, pg_name hN hi hx hf, fun σ H v i hi' E hv Q q => q _ (E.setD hv)⟩
theorem gfr_pair (i j : Nat) {x y : Str} {px py tp : Pos} {kk : Nat} {G : Nat → List Sl} {d1 d2 : Nat → PyData} (hg : PG X (.Tuple [.Name x px, .Name y py] kk tp) (gTup X.K 2 (gCons (gName i) (gCons (gName j) gNil)))) :
    GFr X ex (.Tuple [.Name x px, .Name y py] kk tp) n (fun k => .tuple [d1 k, d2 k]) G (fun k => ((G k).set i (.dat (d1 k))).set j (.dat (d2 k))) := ⟨_, hg, fun σ H v k hk E hv Q q => by
  obtain ⟨a, xs, rfl, f1, r1⟩ := hv.tupi
  obtain ⟨x, y, rfl, g1, g2⟩ := r1.two
  exact ⟨a, [x, y], rfl, SqT.of (era_some f1).2, rfl, x, [y], rfl, y, [], rfl, rfl, q _ ((E.setD g1).setD g2)⟩⟩
/-- for: by the turn what is known of the slots (G) and of the heap (M) -/
theorem sd_for (G G' : Nat → List Sl) (M : Nat → Hp → Prop) (hp : PassesOwn (model X.prog X.w) X.A X.env X.xe) (hc : X.calm = true) (hR : RO ex R) (hM : ∀ i, RO ex (M i)) (hi : IV X ex Γ tg iter n xd) (hg : GFr X ex tg n xd G G')
    (l0 : Less Γ (G 0)) (m0 : ∀ H, R H → M 0 H)
    (step : ∀ i, i < n → ∀ Hb, SD X ex (fun H => Ex (era ex Hb) (era ex H) ∧ M i H) ⟨NX ex (G (i + 1)) (fun H => Ex (era ex Hb) (era ex H) ∧ M (i + 1) H), D.rt, WS X rest D, NX ex (G (i + 1)) (fun H => Ex (era ex Hb) (era ex H) ∧ M (i + 1) H)⟩ (G' i) body)
    (after : SD X ex (M n) D (G n) rest) (hs : ∀ x, foldedSetIterable iter X.env x = pure x := by intro _; rfl) : SD X ex R D Γ (.For tg iter body [] pos :: rest) := fun σ H E q => by
  obtain ⟨wi, hwi, hrd⟩ := hi σ H E (hR.al H q)
  obtain ⟨g, pg, hgr⟩ := hg
  refine ws_cons (ps_for hp hc hwi pg pss_w hs) ?_
  refine hrd _ fun J H2 Y e2 W hY => ?_
  refine for_it W (fun i σ' H' => EnvOk (era ex H') σ' (G i) ∧ Ex (era ex H2) (era ex H') ∧ M i H') ⟨(E.up (era_ex e2)).less l0, Evl.Ex.refl _, m0 _ (hR.up _ _ q e2)⟩ (fun i σ' H' _ p => p.2.1) (fun i x σ' H' H'' hi p y => ?_) (fun σ' H' p => after σ' H' p.1 p.2.2)
  obtain ⟨p1, p2, p3⟩ := p
  obtain ⟨e3, hx⟩ := hY i H' x H'' hi p2 y
  have hx' := hx ex p2 ((hM i).al H' p3)
  refine hgr σ' H'' x i hi (p1.up (era_ex e3)) hx' _ fun σ2 E2 => ?_
  exact step i hi H2 σ2 H'' E2 ⟨p2.trans (era_ex e3), (hM i).up _ _ p3 e3⟩
/-- while, by a state t of a type of one's own -/
theorem sd_while {τ : Type} (G : τ → List Sl) (I : τ → Prop) (m : τ → Nat) (t0 : τ) (hp : PassesOwn (model X.prog X.w) X.A X.env X.xe) (hR : RO ex R) (l0 : Less Γ (G t0)) (i0 : I t0)
    (step : ∀ t, I t → ∃ b, TD X ex (G t) c b ∧ (b = true → SD X ex R ⟨fun σ H => ∃ t', I t' ∧ m t' < m t ∧ NX ex (G t') R σ H, D.rt, WS X rest D, fun σ H => ∃ t', I t' ∧ m t' < m t ∧ NX ex (G t') R σ H⟩ (G t) body) ∧ (b = false → SD X ex R D (G t) rest)) :
    SD X ex R D Γ (.While c body [] pos :: rest) := fun σ H E q => by
  refine ws_cons (ps_while hp pt_w pss_w) ?_
  refine ⟨fun k σ' H' => ∃ t, I t ∧ m t = k ∧ NX ex (G t) R σ' H', ⟨_, t0, i0, rfl, E.less l0, q⟩, ?_⟩
  rintro k σ' H' ⟨t, it, rfl, E', q'⟩
  obtain ⟨b, hb, h1, h2⟩ := step t it
  refine hb σ' H' E' (hR.al H' q') _ fun H1 e1 => ?_
  cases b with
  | true =>
    refine iteT ⟨fun σ H => ∃ t', I t' ∧ m t' < m t ∧ NX ex (G t') R σ H, fun σ2 H2 ⟨t', a1, a2, a3⟩ => ⟨m t', a2, t', a1, rfl, a3⟩, ?_⟩
    exact h1 rfl σ' H1 (E'.up (era_ex e1)) (hR.up _ _ q' e1)
  | false => exact iteF (h2 rfl σ' H1 (E'.up (era_ex e1)) (hR.up _ _ q' e1))
theorem sd_wend {τ : Type} {G : τ → List Sl} {I : τ → Prop} {m : τ → Nat} {t : τ} {rt : VK} {bk ct : L2.St → Hp → Prop} (t' : τ) (i' : I t') (l : m t' < m t) (e : Less Γ (G t')) : SD X ex R ⟨fun σ H => ∃ t', I t' ∧ m t' < m t ∧ NX ex (G t') R σ H, rt, bk, ct⟩ Γ [] :=
  sd_nil fun σ H E q => ⟨t', i', l, E.less e, q⟩
end

/-! ### a list that a loop fills -/
/-- f holds a new list of the data ds; all else of the entry H0 is as it was -/
def LB (ex : List Addr) (H0 : Hp) (f : Addr) (ds : List PyData) (H : Hp) : Prop := Ex H0 H ∧ H0 f = none ∧ f ∉ ex ∧ Al ex H ∧ ∃ acc, H f = some (.lst acc) ∧ DqA (era (f :: ex) H) acc ds
theorem ro_lb {ex : List Addr} {H0 : Hp} {f : Addr} {ds : List PyData} : RO (f :: ex) (LB ex H0 f ds) :=
  ⟨fun H H' ⟨a, b, c, d, acc, g1, g2⟩ e => ⟨a.trans e, b, c, d.up e, acc, e f _ g1, g2.up (era_ex e)⟩, fun H ⟨a, b, c, d, acc, g1, g2⟩ => d.cons g1⟩
section
variable {X : Cx} {ex : List Addr} {H0 : Hp} {D : Ends} {Γ : List Sl} {e : Expr} {pos : Pos} {d : PyData} {rest : List Stmt}
/-- x = [] -/
theorem sd_new (i : Nat) {x : Str} {p lp : Pos} (hN : X.N.Nodup) (hi : X.N[i]? = some x) (hx : Loc X.env.scope x) (k : ∀ f, SD X (f :: ex) (LB ex H0 f []) D (Γ.set i (.val (.ref f))) rest)
    (hs : swapsWith (.List [] lp) (some (.Name x p)) pos.line X.env = pure false := by rfl) (hf : X.fn x = true ∨ X.env.scope.names.lookup x = some .local := by first | exact .inl rfl | exact .inr rfl | assumption) :
    SD X ex (RP ex H0) D Γ (.Assign [.Name x p] (.List [] lp) pos :: rest) := fun σ H E q => by
  refine ws_cons (ps_set hN hi hx (pe_lst pa_nil) hs hf) ?_
  refine ⟨Nat.zero_le _, fun f hf => ?_⟩
  have e1 : Ex H (upd H f (.lst [])) := Evl.Ex.new hf
  refine k f _ _ ((E.up (era_hide e1 hf)).setV) ⟨q.1.trans e1, q.1.free hf, q.2.out hf, q.2.up e1, [], upd_same, .nil⟩
/-- the filled list is data from now on -/
theorem sd_done {f : Addr} {ds : List PyData} (i : Nat) (g : Γ[i]? = some (.val (.ref f))) (k : SD X ex (RP ex H0) D (Γ.set i (.dat (.list ds))) rest) : SD X (f :: ex) (LB ex H0 f ds) D Γ rest := fun σ H E q => by
  obtain ⟨a, b, c, d, acc, g1, g2⟩ := q
  have E' := E.up (era_show (ex := ex) (f := f) (H := H))
  have hv : Dq (era ex H) (.ref f) (.list ds) := .lst (by rw [era_at c]; exact g1) (g2.up era_show)
  have hσ := E.val g
  have hset : σ.set i (some (.ref f)) = σ := by
    obtain ⟨h1, h2⟩ := List.getElem?_eq_some_iff.mp hσ
    rw [← h2]
    exact List.set_getElem_self h1
  have E2 := E'.setD (i := i) hv
  rw [hset] at E2
  exact k σ H E2 ⟨a, d⟩
/-- x.append(e) -/
theorem sd_app {R R' : Hp → Prop} {f : Addr} {apos cpos : Pos} {x : Str} {xp : Pos} {i : Nat} {ap : Str} (hR : RO (f :: ex) R) (hlb : ∀ H, R H → ∃ acc, H f = some (.lst acc) ∧ acc.length < 100000) (hN : X.N[i]? = some x) (hv : Vis X.env.scope x) (hG : Γ[i]? = some (.val (.ref f)))
    (he : PD X (f :: ex) Γ e d) (hap : ap = "append") (hm : ∀ H acc v, R H → H f = some (.lst acc) → Dq (era (f :: ex) H) v d → R' (upd H f (.lst (acc ++ [v])))) (k : SD X (f :: ex) R' D Γ rest)
    (hpe : ∀ (te : TE), PE X e te → PE X (.Call (.Attribute (.Name x xp) ap apos) [e] [] cpos) (tBM X.K "list" rAppend (tVar i) (tCons te tNil)))
    (hs : swapsWith (.Call (.Attribute (.Name x xp) ap apos) [e] [] cpos) none pos.line X.env = pure false := by rfl) :
    SD X (f :: ex) R D Γ (.Expr (.Call (.Attribute (.Name x xp) ap apos) [e] [] cpos) pos :: rest) := fun σ H E q => by
  refine ws_cons (ps_expr (hpe _ pe_w) hs) ?_
  obtain ⟨acc0, b1, b2⟩ := hlb H q
  refine ⟨.ref f, E.val hG, .inl ⟨rfl, _, .inl (.inl b1)⟩, ?_⟩
  refine he σ H E (hR.al H q) _ fun v H1 e1 h1 => ?_
  have q1 := hR.up H H1 q e1
  obtain ⟨acc, c1, c2⟩ := hlb H1 q1
  refine ⟨f, acc, v, rfl, rfl, c1, Nat.lt_of_lt_of_le c2 (by decide), ?_⟩
  refine k σ _ ?_ (hm H1 acc v q1 c1 h1)
  rw [era_upd List.mem_cons_self]
  exact E.up (era_ex e1)
end
end Cv

namespace Cv
open PySem PySem.Spec PyProof.Rows L2
open Evl (Ex)
def topS (i : Nat) : Stmt := PySem.Challenge.pw_countveil_k62_whole_seasons_and_patterns.main.body.getD i (.Pass ⟨0, 0, 0, 0⟩)
/-- the context of a def's body -/
abbrev CB (P : Program) (w : World) (K : PySem.W.Frag) (mg : Str → Option Value) (base : Heap) (N : List Str) (qual : Str) (st : Stmt) (f : Addr) (cdv : Value) (A : Around) (outer : List Env) (s : Shared) (H : Hp) (E : XK) : Cx :=
  (cxOf CX0 P w K mg base N qual (defScope st) f cdv A outer s H E).nox
section
variable {P : Program} {w : World} {K : PySem.W.Frag} {mg : Str → Option Value} {base : Heap}
theorem ok_body {x qual : Str} {st : Stmt} {f : Addr} {fd : FuncData} {N ps : List Str} {k : Nat} {C : List PyData → PyData → Prop} (F : Fun K x qual st f fd) (S : FnScope N ps (defScope st)) (hl : ∀ ds d, C ds d → ds.length = ps.length)
    (body : ∀ (cdv : Value) (A : Around) (outer : List Env) (s : Shared) (H0 : Hp) (E : XK) (ds : List PyData) (d : PyData) (ex : List Addr), Room k (A.deeper (envOfC qual (defScope st) s.heap.objs.size f cdv)) → C ds d →
      ∀ D : Ends, (∀ v H2, RP ex H0 H2 → Dq (era ex H2) v d → D.rt v H2) → (∀ σ H2, RP ex H0 H2 → d = .none → D.nx σ H2) →
      SD (CB P w K mg base N qual st f cdv A outer s H0 E) ex (RP ex H0) D (ds.map Sl.dat ++ List.replicate (N.length - ds.length) Sl.non) (defBody st)) : FnOk P w K mg base CX0 (k + 1) f fd ps (spD C) := by
  refine F.ok S (fun vs H Q E h => ?_) (fun cdv A outer s H vs Q E hr h => ?_)
  · obtain ⟨ex, ds, d, hC, _, hv, _⟩ := h
    rw [hv.len, hl ds d hC]
  · obtain ⟨ex, ds, d, hC, al, hv, q⟩ := h
    refine ⟨_, pss_w, ?_⟩
    refine body cdv A outer s H E ds d ex hr hC ⟨fun _ H' => Q .non H', Q, fun _ _ => False, fun _ _ => False⟩ (fun v H2 r hd => q v H2 r.1 hd) (fun σ H2 r e => q _ H2 r.1 (by rw [e]; exact .non)) _ H (envOk_start hv) ⟨Evl.Ex.refl H, al⟩
/-- a def of the text that stands behind the top -/
structure Df (K : PySem.W.Frag) (mg : Str → Option Value) (x : Str) (i : Nat) (ps : List Str) : Prop where
  ex : ∃ (f : Addr) (fd : FuncData), Fun K x x (topS i) f fd ∧ mg x = some (.ref f) ∧ Binds K fd ps []
theorem dn_of {x : Str} {i : Nat} {ps : List Str} {k : Nat} {sp : Sp} (d : Df K mg x i ps) (h : ∀ (f : Addr) (fd : FuncData), Fun K x x (topS i) f fd → FnOk P w K mg base CX0 k f fd ps sp) : Dn P w K mg base x k ps sp := by
  obtain ⟨f, fd, F, m, b⟩ := d.ex
  exact ⟨f, fd, h f fd F, m, F.kp, b⟩
end
end Cv

/-! the mathematics: sums, means, seasons over the rationals -/
namespace Cv
def qsum (n : Nat) (f : Nat → Rat) : Rat := ((List.range n).map f).sum
theorem qsum_zero (f : Nat → Rat) : qsum 0 f = 0 := rfl
theorem qsum_succ (n : Nat) (f : Nat → Rat) : qsum (n + 1) f = qsum n f + f n := by
  unfold qsum
  rw [List.range_succ, List.map_append, List.sum_append, List.map_cons, List.map_nil, List.sum_cons, List.sum_nil, Rat.add_zero]
theorem qsum_congr {n : Nat} {f g : Nat → Rat} (h : ∀ i, i < n → f i = g i) : qsum n f = qsum n g := by
  induction n with
  | zero => rfl
  | succ n ih => rw [qsum_succ, qsum_succ, ih fun i hi => h i (by omega), h n (by omega)]
theorem qsum_add (n : Nat) (f g : Nat → Rat) : qsum n (fun i => f i + g i) = qsum n f + qsum n g := by
  induction n with
  | zero => rw [qsum_zero, qsum_zero, qsum_zero, Rat.add_zero]
  | succ n ih => rw [qsum_succ, qsum_succ, qsum_succ, ih]; grind
theorem qsum_sub (n : Nat) (f g : Nat → Rat) : qsum n (fun i => f i - g i) = qsum n f - qsum n g := by
  induction n with
  | zero => rw [qsum_zero, qsum_zero, qsum_zero, Rat.sub_self]
  | succ n ih => rw [qsum_succ, qsum_succ, qsum_succ, ih]; grind
theorem qsum_smul (n : Nat) (c : Rat) (f : Nat → Rat) : qsum n (fun i => c * f i) = c * qsum n f := by
  induction n with
  | zero => rw [qsum_zero, qsum_zero, Rat.mul_zero]
  | succ n ih => rw [qsum_succ, qsum_succ, ih]; grind
theorem qsum_const (n : Nat) (c : Rat) : qsum n (fun _ => c) = (n : Rat) * c := by
  induction n with
  | zero => rw [qsum_zero]; grind
  | succ n ih => rw [qsum_succ, ih]; grind
theorem qsum_shift (n : Nat) (f : Nat → Rat) : qsum n (fun i => f (i + 1)) + f 0 = qsum (n + 1) f := by
  induction n with
  | zero => rw [qsum_succ, qsum_zero, qsum_zero]
  | succ n ih => rw [qsum_succ, qsum_succ (n + 1), ← ih]; grind
theorem qsum_rev (n : Nat) (f : Nat → Rat) : qsum n (fun i => f (n - 1 - i)) = qsum n f := by
  induction n with
  | zero => rfl
  | succ n ih =>
    rw [qsum_succ n f, ← ih, ← qsum_shift]
    have h1 : qsum n (fun i => f (n + 1 - 1 - (i + 1))) = qsum n (fun i => f (n - 1 - i)) := qsum_congr fun i hi => by
      rw [show n + 1 - 1 - (i + 1) = n - 1 - i by omega]
    rw [h1]
    rfl
theorem qsum_id (n : Nat) : 2 * qsum n (fun i => (i : Rat)) = (n : Rat) * ((n : Rat) - 1) := by
  induction n with
  | zero => rw [qsum_zero]; grind
  | succ n ih => rw [qsum_succ]; grind
/-- a whole year of a pattern, wherever it begins -/
theorem qsum_window {y : Nat} (hy : 0 < y) (p : Nat → Rat) (a : Nat) : qsum y (fun j => p ((a + j) % y)) = qsum y p := by
  induction a with
  | zero => exact qsum_congr fun j hj => by rw [Nat.zero_add, Nat.mod_eq_of_lt hj]
  | succ a ih =>
    have h1 : qsum y (fun j => p ((a + 1 + j) % y)) = qsum y (fun j => (fun j => p ((a + j) % y)) (j + 1)) := qsum_congr fun j _ => by
      show p ((a + 1 + j) % y) = p ((a + (j + 1)) % y)
      rw [show a + 1 + j = a + (j + 1) by omega]
    have h2 := qsum_shift y (fun j => p ((a + j) % y))
    rw [qsum_succ, ih] at h2
    have h3 : p ((a + y) % y) = p ((a + 0) % y) := by rw [Nat.add_mod_right, Nat.add_zero]
    rw [h1]
    grind

/-! ### the mean round a time -/
def M (y : Nat) (s : Nat → Rat) (i : Nat) : Rat :=
  if y % 2 = 1 then qsum (2 * (y / 2) + 1) (fun j => s (i - y / 2 + j)) / (y : Rat)
  else (2 * qsum (2 * (y / 2) + 1) (fun j => s (i - y / 2 + j)) - s (i - y / 2) - s (i - y / 2 + 2 * (y / 2))) / ((2 * y : Nat) : Rat)
theorem M_add (y : Nat) (s t : Nat → Rat) (i : Nat) : M y (fun i => s i + t i) i = M y s i + M y t i := by
  unfold M
  split <;> rw [qsum_add] <;> grind
theorem M_smul (y : Nat) (c : Rat) (s : Nat → Rat) (i : Nat) : M y (fun i => c * s i) i = c * M y s i := by
  unfold M
  split <;> rw [qsum_smul] <;> grind
theorem M_congr {y : Nat} {s t : Nat → Rat} {i : Nat} (hi : y / 2 ≤ i) (h : ∀ j, j ≤ i + y / 2 → s j = t j) : M y s i = M y t i := by
  unfold M
  have h1 : qsum (2 * (y / 2) + 1) (fun j => s (i - y / 2 + j)) = qsum (2 * (y / 2) + 1) (fun j => t (i - y / 2 + j)) := qsum_congr fun j hj => h _ (by omega)
  rw [h1, h (i - y / 2) (by omega), h (i - y / 2 + 2 * (y / 2)) (by omega)]
theorem M_per {y : Nat} (hy : 0 < y) (p : Nat → Rat) (i : Nat) : M y (fun i => p (i % y)) i = qsum y p / (y : Rat) := by
  unfold M
  have hy' : (y : Rat) ≠ 0 := by
    intro h
    have : y = 0 := Rat.natCast_eq_zero_iff.mp h
    omega
  by_cases h : y % 2 = 1
  · rw [if_pos h]
    have e : 2 * (y / 2) + 1 = y := by omega
    rw [e, qsum_window hy p]
  · rw [if_neg h]
    have e : 2 * (y / 2) = y := by omega
    rw [e, qsum_succ, qsum_window hy p]
    show (2 * (qsum y p + p ((i - y / 2 + y) % y)) - p ((i - y / 2) % y) - p ((i - y / 2 + y) % y)) / ((2 * y : Nat) : Rat) = _
    rw [Nat.add_mod_right, show ((2 * y : Nat) : Rat) = 2 * (y : Rat) by grind]
    have h2 : (2 : Rat) * (y : Rat) ≠ 0 := by grind
    grind
theorem M_const {y : Nat} (hy : 0 < y) (c : Rat) (i : Nat) : M y (fun _ => c) i = c := by
  have h := M_per hy (fun _ => c) i
  rw [qsum_const] at h
  have hy' : (y : Rat) ≠ 0 := by
    intro h
    have : y = 0 := Rat.natCast_eq_zero_iff.mp h
    omega
  rw [h]
  grind
theorem M_line {y : Nat} (hy : 0 < y) (a b : Rat) (i : Nat) (hi : y / 2 ≤ i) : M y (fun i => a + b * (i : Rat)) i = a + b * (i : Rat) := by
  have hy' : (y : Rat) ≠ 0 := by
    intro h
    have : y = 0 := Rat.natCast_eq_zero_iff.mp h
    omega
  have key : ∀ m x : Nat, 2 * qsum m (fun j => a + b * ((x + j : Nat) : Rat)) = 2 * (m : Rat) * (a + b * (x : Rat)) + b * ((m : Rat) * ((m : Rat) - 1)) := by
    intro m x
    have h1 : qsum m (fun j => a + b * ((x + j : Nat) : Rat)) = qsum m (fun j => (a + b * (x : Rat)) + b * (j : Rat)) := qsum_congr fun j _ => by grind
    have h2 := qsum_id m
    rw [h1, qsum_add, qsum_const, qsum_smul]
    grind
  generalize hx : i - y / 2 = x
  have hix : i = x + y / 2 := by omega
  have k := key (2 * (y / 2) + 1) x
  generalize hh : y / 2 = h at *
  unfold M
  rw [hh, hx]
  have e1 : ((2 * h + 1 : Nat) : Rat) = 2 * (h : Rat) + 1 := by grind
  have e2 : (i : Rat) = (x : Rat) + (h : Rat) := by rw [hix]; grind
  have e3 : ((x + 2 * h : Nat) : Rat) = (x : Rat) + 2 * (h : Rat) := by grind
  rw [e1] at k
  by_cases ho : y % 2 = 1
  · rw [if_pos ho]
    have e : (y : Rat) = 2 * (h : Rat) + 1 := by
      rw [show y = 2 * h + 1 by omega]; grind
    rw [e2]
    grind
  · rw [if_neg ho]
    have e : (y : Rat) = 2 * (h : Rat) := by
      rw [show y = 2 * h by omega]; grind
    have e4 : ((2 * y : Nat) : Rat) = 2 * (y : Rat) := by grind
    have h2 : (2 : Rat) * (y : Rat) ≠ 0 := by grind
    rw [e2, e4]
    show (2 * qsum (2 * h + 1) (fun j => a + b * ((x + j : Nat) : Rat)) - (a + b * (x : Rat)) - (a + b * ((x + 2 * h : Nat) : Rat))) / _ = _
    rw [e3]
    grind
theorem M_rev {y N : Nat} (s : Nat → Rat) (i : Nat) (h1 : y / 2 ≤ i) (h2 : i + y / 2 < N) : M y (fun j => s (N - 1 - j)) i = M y s (N - 1 - i) := by
  unfold M
  have e : qsum (2 * (y / 2) + 1) (fun j => s (N - 1 - (i - y / 2 + j))) = qsum (2 * (y / 2) + 1) (fun j => s (N - 1 - i - y / 2 + j)) := by
    rw [← qsum_rev]
    refine qsum_congr fun j hj => ?_
    rw [show N - 1 - (i - y / 2 + (2 * (y / 2) + 1 - 1 - j)) = N - 1 - i - y / 2 + j by omega]
  rw [e]
  have e2 : (fun j => s (N - 1 - j)) (i - y / 2) = s (N - 1 - i - y / 2 + 2 * (y / 2)) := by
    show s (N - 1 - (i - y / 2)) = _
    rw [show N - 1 - (i - y / 2) = N - 1 - i - y / 2 + 2 * (y / 2) by omega]
  have e3 : (fun j => s (N - 1 - j)) (i - y / 2 + 2 * (y / 2)) = s (N - 1 - i - y / 2) := by
    show s (N - 1 - (i - y / 2 + 2 * (y / 2))) = _
    rw [show N - 1 - (i - y / 2 + 2 * (y / 2)) = N - 1 - i - y / 2 by omega]
  rw [e2, e3]
  split <;> grind

/-! ### seasons -/
def valid (N y i : Nat) : Bool := decide (y / 2 ≤ i) && decide (i + y / 2 < N)
theorem valid_iff {N y i : Nat} : valid N y i = true ↔ y / 2 ≤ i ∧ i + y / 2 < N := by
  unfold valid
  rw [Bool.and_eq_true, decide_eq_true_iff, decide_eq_true_iff]
def cnt (N y k : Nat) : Nat := (N - k + y - 1) / y
def tat (N y k : Nat) : List Nat := ((List.range (cnt N y k)).filter (fun t => valid N y (k + t * y))).map (fun t => k + t * y)
def T (N y k : Nat) (f : Nat → Rat) : Rat := qsum (cnt N y k) (fun t => if valid N y (k + t * y) = true then f (k + t * y) else 0)
theorem sum_filter (l : List Nat) (p : Nat → Bool) (f : Nat → Rat) : ((l.filter p).map f).sum = (l.map (fun x => if p x = true then f x else 0)).sum := by
  induction l with
  | nil => rfl
  | cons a r ih =>
    rw [List.filter_cons, List.map_cons, List.sum_cons, ← ih]
    by_cases h : p a = true
    · rw [if_pos h, if_pos h, List.map_cons, List.sum_cons]
    · rw [if_neg h, if_neg h, Rat.zero_add]
theorem tat_sum (N y k : Nat) (f : Nat → Rat) : ((tat N y k).map f).sum = T N y k f := by
  unfold tat T qsum
  rw [List.map_map, sum_filter]
  rfl
theorem len_sum (l : List Nat) : ((l.length : Nat) : Rat) = (l.map (fun _ => (1 : Rat))).sum := by
  induction l with
  | nil => rfl
  | cons a r ih =>
    rw [List.length_cons, List.map_cons, List.sum_cons, ← ih]
    grind
theorem tat_len (N y k : Nat) : (((tat N y k).length : Nat) : Rat) = T N y k (fun _ => 1) := by
  rw [len_sum, tat_sum]
theorem tat_mem {N y k i : Nat} (h : i ∈ tat N y k) : ∃ t, t < cnt N y k ∧ i = k + t * y ∧ valid N y i = true := by
  unfold tat at h
  obtain ⟨t, h1, rfl⟩ := List.mem_map.mp h
  obtain ⟨h2, h3⟩ := List.mem_filter.mp h1
  exact ⟨t, List.mem_range.mp h2, rfl, h3⟩
theorem tat_ne {N y k : Nat} (hy : 2 ≤ y) (hN : 2 * y ≤ N) (hk : k < y) : tat N y k ≠ [] := by
  have hc : 2 ≤ cnt N y k := by
    unfold cnt
    exact (Nat.le_div_iff_mul_le (by omega)).mpr (by omega)
  have h : ∃ t, t < 2 ∧ valid N y (k + t * y) = true := by
    by_cases q : y / 2 ≤ k
    · exact ⟨0, by omega, valid_iff.mpr ⟨by omega, by omega⟩⟩
    · exact ⟨1, by omega, valid_iff.mpr ⟨by omega, by omega⟩⟩
  obtain ⟨t, h1, h2⟩ := h
  intro e
  have : k + t * y ∈ tat N y k := List.mem_map.mpr ⟨t, List.mem_filter.mpr ⟨List.mem_range.mpr (by omega), h2⟩, rfl⟩
  rw [e] at this
  cases this
theorem tat_pos {N y k : Nat} (hy : 2 ≤ y) (hN : 2 * y ≤ N) (hk : k < y) : 0 < (tat N y k).length := List.length_pos_iff.mpr (tat_ne hy hN hk)
theorem T_ne {N y k : Nat} (hy : 2 ≤ y) (hN : 2 * y ≤ N) (hk : k < y) : T N y k (fun _ => 1) ≠ 0 := by
  rw [← tat_len]
  intro h
  have h1 := Rat.natCast_eq_zero_iff.mp h
  have h2 := tat_pos hy hN hk
  omega
theorem T_congr {N y k : Nat} {f g : Nat → Rat} (h : ∀ t, t < cnt N y k → valid N y (k + t * y) = true → f (k + t * y) = g (k + t * y)) : T N y k f = T N y k g :=
  qsum_congr fun t ht => by
    by_cases q : valid N y (k + t * y) = true
    · rw [if_pos q, if_pos q, h t ht q]
    · rw [if_neg q, if_neg q]
theorem T_addc (N y k : Nat) (f : Nat → Rat) (c : Rat) : T N y k (fun i => f i + c) = T N y k f + c * T N y k (fun _ => 1) := by
  unfold T
  rw [← qsum_smul, ← qsum_add]
  exact qsum_congr fun t _ => by split <;> grind
theorem T_smul (N y k : Nat) (f : Nat → Rat) (c : Rat) : T N y k (fun i => c * f i) = c * T N y k f := by
  unfold T
  rw [← qsum_smul]
  exact qsum_congr fun t _ => by split <;> grind
theorem T_zero (N y k : Nat) : T N y k (fun _ => 0) = 0 := by
  have h := T_smul N y k (fun _ => 0) 0
  have e : (fun i : Nat => (0 : Rat) * (fun _ => (0 : Rat)) i) = fun _ => 0 := by funext i; exact Rat.mul_zero _
  rw [e] at h
  rw [h, Rat.zero_mul]
/-- the mean of the numbers less the means round them, at the k-th time -/
def F (N y : Nat) (s : Nat → Rat) (k : Nat) : Rat := ((tat N y k).map (fun i => s i - M y s i)).sum * (1 / ((tat N y k).length : Rat))
def mid (N y : Nat) (s : Nat → Rat) : Rat := qsum y (F N y s) * (1 / (y : Rat))
def seas (N y : Nat) (s : Nat → Rat) (k : Nat) : Rat := F N y s k - mid N y s
def adj (N y : Nat) (s : Nat → Rat) (i : Nat) : Rat := s i - seas N y s (i % y)
theorem F_eq (N y : Nat) (s : Nat → Rat) (k : Nat) : F N y s k = T N y k (fun i => s i - M y s i) / T N y k (fun _ => 1) := by
  unfold F
  rw [tat_sum, tat_len]
  grind
theorem cast_ne {y : Nat} (hy : 0 < y) : (y : Rat) ≠ 0 := by
  intro h
  have : y = 0 := Rat.natCast_eq_zero_iff.mp h
  omega
theorem seas_sum {N y : Nat} (hy : 0 < y) (s : Nat → Rat) : qsum y (seas N y s) = 0 := by
  have h := cast_ne hy
  have e : qsum y (seas N y s) = qsum y (fun k => F N y s k - mid N y s) := rfl
  rw [e, qsum_sub, qsum_const]
  unfold mid
  grind
/-- the adjusted numbers of a year sum to what the numbers do -/
theorem adj_window {N y : Nat} (hy : 0 < y) (s : Nat → Rat) (a : Nat) : qsum y (fun j => adj N y s (a + j)) = qsum y (fun j => s (a + j)) := by
  have e : qsum y (fun j => adj N y s (a + j)) = qsum y (fun j => s (a + j) - seas N y s ((a + j) % y)) := rfl
  rw [e, qsum_sub, qsum_window hy, seas_sum hy]
  grind
section
variable {N y : Nat} (hy : 2 ≤ y) (hN : 2 * y ≤ N)
theorem F_congr {s t : Nat → Rat} {k : Nat} (hk : k < y) (h : ∀ i, i < N → s i = t i) : F N y s k = F N y t k := by
  rw [F_eq, F_eq]
  congr 1
  refine T_congr fun u hu hv => ?_
  obtain ⟨h1, h2⟩ := valid_iff.mp hv
  rw [h _ (by omega), M_congr h1 fun j hj => h j (by omega)]
theorem seas_congr {s t : Nat → Rat} {k : Nat} (hk : k < y) (h : ∀ i, i < N → s i = t i) : seas N y s k = seas N y t k := by
  unfold seas mid
  rw [F_congr hk h, qsum_congr fun k' hk' => F_congr hk' h]
include hy hN in
theorem F_per (s p : Nat → Rat) {k : Nat} (hk : k < y) : F N y (fun i => s i + p (i % y)) k = F N y s k + (p k - qsum y p / (y : Rat)) := by
  rw [F_eq, F_eq]
  have h1 : T N y k (fun i => (s i + p (i % y)) - M y (fun i => s i + p (i % y)) i) = T N y k (fun i => (s i - M y s i) + (p k - qsum y p / (y : Rat))) := T_congr fun t ht hv => by
    rw [M_add, M_per (by omega)]
    rw [show (k + t * y) % y = k by rw [Nat.add_mul_mod_self_right, Nat.mod_eq_of_lt hk]]
    grind
  rw [h1, T_addc]
  have h2 := T_ne hy hN hk
  grind
include hy hN in
theorem mid_per (s p : Nat → Rat) : mid N y (fun i => s i + p (i % y)) = mid N y s := by
  unfold mid
  have h1 : qsum y (F N y (fun i => s i + p (i % y))) = qsum y (fun k => F N y s k + (p k - qsum y p / (y : Rat))) := qsum_congr fun k hk => F_per hy hN s p hk
  have h2 := cast_ne (show 0 < y by omega)
  rw [h1, qsum_add, qsum_sub, qsum_const]
  grind
include hy hN in
theorem seas_per (s p : Nat → Rat) {k : Nat} (hk : k < y) : seas N y (fun i => s i + p (i % y)) k = seas N y s k + (p k - qsum y p / (y : Rat)) := by
  unfold seas
  rw [F_per hy hN s p hk, mid_per hy hN s p]
  grind
include hy hN in
/-- a pattern that sums to 0 -/
theorem seas_pat (s p : Nat → Rat) (h0 : qsum y p = 0) {k : Nat} (hk : k < y) : seas N y (fun i => s i + p (i % y)) k = seas N y s k + p k := by
  rw [seas_per hy hN s p hk, h0]
  grind
include hy in
theorem M_pat (s p : Nat → Rat) (h0 : qsum y p = 0) (i : Nat) : M y (fun i => s i + p (i % y)) i = M y s i := by
  rw [M_add, M_per (by omega), h0]
  grind
include hy hN in
theorem adj_pat (s p : Nat → Rat) (h0 : qsum y p = 0) (i : Nat) : adj N y (fun i => s i + p (i % y)) i = adj N y s i := by
  unfold adj
  rw [seas_pat hy hN s p h0 (Nat.mod_lt _ (by omega))]
  grind
include hy hN in
/-- the same number all through -/
theorem seas_lev (s : Nat → Rat) (c : Rat) {k : Nat} (hk : k < y) : seas N y (fun i => s i + c) k = seas N y s k := by
  have h := seas_per hy hN s (fun _ => c) hk
  have h2 := cast_ne (show 0 < y by omega)
  rw [qsum_const] at h
  rw [h]
  grind
include hy in
theorem M_lev (s : Nat → Rat) (c : Rat) (i : Nat) : M y (fun i => s i + c) i = M y s i + c := by
  rw [M_add, M_const (by omega)]
include hy hN in
theorem adj_lev (s : Nat → Rat) (c : Rat) (i : Nat) : adj N y (fun i => s i + c) i = adj N y s i + c := by
  unfold adj
  rw [seas_lev hy hN s c (Nat.mod_lt _ (by omega))]
  grind
theorem F_smul (s : Nat → Rat) (c : Rat) (k : Nat) : F N y (fun i => c * s i) k = c * F N y s k := by
  rw [F_eq, F_eq]
  have h1 : T N y k (fun i => c * s i - M y (fun i => c * s i) i) = T N y k (fun i => c * (s i - M y s i)) := T_congr fun t ht hv => by
    rw [M_smul]
    grind
  rw [h1, T_smul]
  grind
theorem seas_smul (s : Nat → Rat) (c : Rat) (k : Nat) : seas N y (fun i => c * s i) k = c * seas N y s k := by
  unfold seas mid
  have h1 : qsum y (F N y (fun i => c * s i)) = qsum y (fun k => c * F N y s k) := qsum_congr fun k hk => F_smul s c k
  rw [F_smul, h1, qsum_smul]
  grind
theorem adj_smul (s : Nat → Rat) (c : Rat) (i : Nat) : adj N y (fun i => c * s i) i = c * adj N y s i := by
  unfold adj
  rw [seas_smul]
  grind
include hy in
theorem F_line (a b : Rat) (k : Nat) : F N y (fun i => a + b * (i : Rat)) k = 0 := by
  rw [F_eq]
  have h1 : T N y k (fun i => (a + b * (i : Rat)) - M y (fun i => a + b * (i : Rat)) i) = T N y k (fun _ => 0) := T_congr fun t ht hv => by
    obtain ⟨h1, h2⟩ := valid_iff.mp hv
    rw [M_line (by omega) a b _ h1]
    grind
  rw [h1, T_zero]
  grind
include hy in
theorem seas_line (a b : Rat) (k : Nat) : seas N y (fun i => a + b * (i : Rat)) k = 0 := by
  unfold seas mid
  have h1 : qsum y (F N y (fun i => a + b * (i : Rat))) = qsum y (fun k => 0 * F N y (fun i => a + b * (i : Rat)) k) := qsum_congr fun k hk => by rw [F_line hy, Rat.mul_zero]
  rw [h1, qsum_smul, F_line hy]
  grind
end
/-! ### told from behind -/
theorem valid_rev {N y i : Nat} (hi : i < N) : valid N y (N - 1 - i) = valid N y i := by
  rw [Bool.eq_iff_iff, valid_iff, valid_iff]
  omega
theorem cnt_whole {y m k : Nat} (hy : 0 < y) (hk : k < y) (hm : 0 < m) : cnt (m * y) y k = m := by
  unfold cnt
  have h1 : y ≤ m * y := Nat.le_mul_of_pos_left y hm
  rw [show m * y - k + y - 1 = (y - 1 - k) + m * y by omega, Nat.add_mul_div_right _ _ hy, Nat.div_eq_of_lt (by omega), Nat.zero_add]
theorem T_rev {y m k : Nat} (hy : 0 < y) (hk : k < y) (hm : 0 < m) (f : Nat → Rat) : T (m * y) y k (fun i => f (m * y - 1 - i)) = T (m * y) y (y - 1 - k) f := by
  unfold T
  rw [cnt_whole hy hk hm, cnt_whole hy (by omega) hm, ← qsum_rev]
  refine qsum_congr fun t ht => ?_
  have h0 : (m - 1 - t) * y + t * y + y = m * y := by
    rw [← Nat.add_mul, ← Nat.succ_mul]
    congr 1
    omega
  have e : m * y - 1 - (k + (m - 1 - t) * y) = y - 1 - k + t * y := by omega
  have e2 : k + (m - 1 - t) * y < m * y := by omega
  have e3 := valid_rev (y := y) e2
  rw [e] at e3
  show (if valid (m * y) y (k + (m - 1 - t) * y) = true then f (m * y - 1 - (k + (m - 1 - t) * y)) else 0) = _
  rw [e, e3]
theorem F_rev {y m k : Nat} (hy : 2 ≤ y) (hk : k < y) (hm : 0 < m) (s : Nat → Rat) : F (m * y) y (fun j => s (m * y - 1 - j)) k = F (m * y) y s (y - 1 - k) := by
  rw [F_eq, F_eq]
  have h1 : T (m * y) y k (fun i => s (m * y - 1 - i) - M y (fun j => s (m * y - 1 - j)) i) = T (m * y) y k (fun i => (fun i => s i - M y s i) (m * y - 1 - i)) := T_congr fun t ht hv => by
    obtain ⟨h1, h2⟩ := valid_iff.mp hv
    rw [M_rev s _ h1 h2]
  have h2 := T_rev (y := y) (m := m) (k := k) (by omega) hk hm (fun _ => 1)
  have h3 := T_rev (y := y) (m := m) (k := k) (by omega) hk hm (fun i => s i - M y s i)
  rw [h1, h2, h3]
theorem seas_rev {y m k : Nat} (hy : 2 ≤ y) (hk : k < y) (hm : 0 < m) (s : Nat → Rat) : seas (m * y) y (fun j => s (m * y - 1 - j)) k = seas (m * y) y s (y - 1 - k) := by
  unfold seas mid
  have h1 : qsum y (F (m * y) y (fun j => s (m * y - 1 - j))) = qsum y (fun k => F (m * y) y s (y - 1 - k)) := qsum_congr fun k hk => F_rev hy hk hm s
  rw [F_rev hy hk hm, h1, qsum_rev]
end Cv

/-! bounds of the numbers that the program meets -/
namespace Cv
/-- small enough for the model's walks -/
def Sm (q : Rat) : Prop := q.num.natAbs < 2 ^ 4000 ∧ q.den < 2 ^ 4000
/-- all sums of beginnings are small -/
def SmS (qs : List Rat) : Prop := (∀ q ∈ qs, Sm q) ∧ ∀ n, Sm (qs.take n).sum
/-- a whole number by D, within b -/
def Ce (D b : Nat) (q : Rat) : Prop := ∃ z : Int, q * (D : Rat) = (z : Rat) ∧ z.natAbs ≤ b
theorem mul_den (q : Rat) : q * ((q.den : Int) : Rat) = (q.num : Rat) := by
  have h := Rat.num_divInt_den q
  rw [Rat.divInt_eq_div] at h
  have h2 : ((q.den : Int) : Rat) ≠ 0 := by
    intro e
    have := Rat.intCast_eq_zero_iff.mp e
    have := q.den_nz
    omega
  generalize hd : ((q.den : Int) : Rat) = d at *
  generalize hn : (q.num : Rat) = n at *
  grind
theorem Ce.cross {D b : Nat} {q : Rat} (h : Ce D b q) : ∃ z : Int, q.num * D = z * q.den ∧ z.natAbs ≤ b := by
  obtain ⟨z, h1, h2⟩ := h
  refine ⟨z, ?_, h2⟩
  have h3 := mul_den q
  have h4 : ((q.num * (D : Int) : Int) : Rat) = ((z * (q.den : Int) : Int) : Rat) := by
    rw [Rat.intCast_mul, Rat.intCast_mul, ← h1, ← h3]
    have : (((D : Nat) : Int) : Rat) = (D : Rat) := rfl
    rw [this]
    grind
  exact Rat.intCast_inj.mp h4
theorem Ce.sm {D b : Nat} {q : Rat} (h : Ce D b q) (hD : 0 < D) (hD2 : D < 2 ^ 4000) (hb : b < 2 ^ 4000) : Sm q := by
  obtain ⟨z, h1, h2⟩ := h.cross
  have h3 : q.den ∣ D := by
    have e : q.num.natAbs * D = z.natAbs * q.den := by
      have := congrArg Int.natAbs h1
      rw [Int.natAbs_mul, Int.natAbs_mul] at this
      simpa using this
    have : q.den ∣ q.num.natAbs * D := ⟨z.natAbs, by rw [e, Nat.mul_comm]⟩
    exact Nat.Coprime.dvd_of_dvd_mul_left (Nat.Coprime.symm q.reduced) this
  have h4 : q.den ≤ D := Nat.le_of_dvd hD h3
  refine ⟨?_, Nat.lt_of_le_of_lt h4 hD2⟩
  have e : q.num.natAbs * D = z.natAbs * q.den := by
    have := congrArg Int.natAbs h1
    rw [Int.natAbs_mul, Int.natAbs_mul] at this
    simpa using this
  have h5 : q.num.natAbs * D ≤ z.natAbs * D := by rw [e]; exact Nat.mul_le_mul_left _ h4
  have h6 : q.num.natAbs ≤ z.natAbs := Nat.le_of_mul_le_mul_right h5 hD
  omega
theorem Ce.add {D b c : Nat} {q r : Rat} (h : Ce D b q) (g : Ce D c r) : Ce D (b + c) (q + r) := by
  obtain ⟨z, h1, h2⟩ := h
  obtain ⟨w, g1, g2⟩ := g
  exact ⟨z + w, by rw [Rat.intCast_add, ← h1, ← g1]; grind, by omega⟩
theorem Ce.sub {D b c : Nat} {q r : Rat} (h : Ce D b q) (g : Ce D c r) : Ce D (b + c) (q - r) := by
  obtain ⟨z, h1, h2⟩ := h
  obtain ⟨w, g1, g2⟩ := g
  exact ⟨z - w, by rw [Rat.intCast_sub, ← h1, ← g1]; grind, by omega⟩
theorem Ce.up {D b c : Nat} {q : Rat} (h : Ce D b q) (l : b ≤ c) : Ce D c q := let ⟨z, h1, h2⟩ := h; ⟨z, h1, Nat.le_trans h2 l⟩
theorem Ce.zero (D b : Nat) : Ce D b 0 := ⟨0, by rw [Rat.zero_mul]; rfl, Nat.zero_le _⟩
theorem Ce.sum {D b : Nat} : ∀ {l : List Rat}, (∀ q ∈ l, Ce D b q) → Ce D (l.length * b) l.sum
  | [], _ => Ce.zero _ _
  | a :: r, h => by
    have h1 := h a List.mem_cons_self
    have h2 := Ce.sum (l := r) fun q hq => h q (List.mem_cons_of_mem _ hq)
    rw [List.sum_cons, List.length_cons]
    exact (h1.add h2).up (by rw [Nat.succ_mul]; omega)
theorem Ce.sms {D b : Nat} {l : List Rat} (h : ∀ q ∈ l, Ce D b q) (hl : l.length ≤ 128) (hD : 0 < D) (hD2 : D < 2 ^ 4000) (hb : 128 * b < 2 ^ 4000) : SmS l := by
  refine ⟨fun q hq => (h q hq).sm hD hD2 (by omega), fun n => ?_⟩
  have h1 := Ce.sum (l := l.take n) fun q hq => h q (List.mem_of_mem_take hq)
  refine h1.sm hD hD2 (Nat.lt_of_le_of_lt (Nat.mul_le_mul_right b ?_) hb)
  rw [List.length_take]
  omega
theorem Ce.of {D m r b : Nat} {q : Rat} {z : Int} (h : q * (m : Rat) = (z : Rat)) (hD : D = m * r) (hz : z.natAbs * r ≤ b) : Ce D b q := by
  refine ⟨z * (r : Int), ?_, by rw [Int.natAbs_mul]; simpa using hz⟩
  rw [hD, Rat.intCast_mul, ← h]
  have : (((r : Nat) : Int) : Rat) = (r : Rat) := rfl
  rw [this]
  grind
/-- n factorial -/
def fct : Nat → Nat
  | 0 => 1
  | n + 1 => (n + 1) * fct n
theorem fct_pos : ∀ n, 0 < fct n
  | 0 => Nat.one_pos
  | n + 1 => Nat.mul_pos (Nat.succ_pos n) (fct_pos n)
theorem fct_dvd : ∀ {n c : Nat}, 0 < c → c ≤ n → c ∣ fct n
  | 0, c, h, l => by omega
  | n + 1, c, h, l => by
    by_cases e : c = n + 1
    · rw [e]; exact ⟨fct n, rfl⟩
    · obtain ⟨k, hk⟩ := fct_dvd (n := n) h (by omega)
      exact ⟨(n + 1) * k, by show (n + 1) * fct n = _; rw [hk, Nat.mul_left_comm]⟩
theorem fct_le : ∀ {n m : Nat}, n ≤ m → fct n ≤ fct m
  | n, 0, h => by
    have : n = 0 := by omega
    rw [this]
    exact Nat.le_refl _
  | n, m + 1, h => by
    by_cases e : n = m + 1
    · rw [e]; exact Nat.le_refl _
    · exact Nat.le_trans (fct_le (n := n) (m := m) (by omega)) (Nat.le_mul_of_pos_left _ (Nat.succ_pos m))
theorem fct_120 : fct 120 < 2 ^ 661 := by decide +kernel
def DD (N y : Nat) : Nat := 2 * y * y * fct N
/-- the size of all that is met, by DD -/
def BB : Nat := 2 ^ 900
section
variable {N y : Nat} {s : Nat → Rat} {u : Nat → Int}
theorem DD_pos (hy : 0 < y) : 0 < DD N y := Nat.mul_pos (Nat.mul_pos (Nat.mul_pos (by decide) hy) hy) (fct_pos N)
theorem DD_lt (hy2 : y ≤ 12) (hN : N ≤ 120) : DD N y < 2 ^ 670 := by
  have h1 := fct_le hN
  have h2 := fct_120
  have h3 : 2 * y * y ≤ 288 := by
    have := Nat.mul_le_mul hy2 hy2
    rw [Nat.mul_assoc]
    omega
  have h4 : DD N y ≤ 288 * fct 120 := Nat.mul_le_mul h3 h1
  have h5 : 288 * 2 ^ 661 ≤ 2 ^ 670 := by decide +kernel
  have h6 : 288 * fct 120 < 288 * 2 ^ 661 := Nat.mul_lt_mul_of_pos_left h2 (by decide)
  exact Nat.lt_of_le_of_lt h4 (Nat.lt_of_lt_of_le h6 h5)
theorem DD_4000 (hy2 : y ≤ 12) (hN : N ≤ 120) : DD N y < 2 ^ 4000 := Nat.lt_trans (DD_lt hy2 hN) (by decide +kernel)
theorem BB_ok : 128 * (128 * BB) < 2 ^ 4000 := by unfold BB; decide +kernel
theorem qsum_int {A : Nat} (hs : ∀ i, s i = (u i : Rat)) (hu : ∀ i, (u i).natAbs ≤ A) (a n : Nat) : ∃ z : Int, qsum n (fun j => s (a + j)) = (z : Rat) ∧ z.natAbs ≤ n * A := by
  induction n with
  | zero => exact ⟨0, rfl, Nat.zero_le _⟩
  | succ n ih =>
    obtain ⟨z, h1, h2⟩ := ih
    refine ⟨z + u (a + n), by rw [qsum_succ, h1, hs, Rat.intCast_add], ?_⟩
    have := hu (a + n)
    rw [Nat.succ_mul]
    omega
theorem M_int {A : Nat} (hy : 0 < y) (hy2 : y ≤ 12) (hs : ∀ i, s i = (u i : Rat)) (hu : ∀ i, (u i).natAbs ≤ A) (i : Nat) : ∃ z : Int, M y s i * ((2 * y : Nat) : Rat) = (z : Rat) ∧ z.natAbs ≤ 28 * A := by
  obtain ⟨z, h1, h2⟩ := qsum_int hs hu (i - y / 2) (2 * (y / 2) + 1)
  have h3 : (2 * (y / 2) + 1) * A ≤ 13 * A := Nat.mul_le_mul_right A (by omega)
  have hy' := cast_ne hy
  have e : ((2 * y : Nat) : Rat) = 2 * (y : Rat) := by grind
  have hy'' : 2 * (y : Rat) ≠ 0 := by grind
  unfold M
  rw [h1]
  by_cases ho : y % 2 = 1
  · rw [if_pos ho]
    refine ⟨2 * z, ?_, by omega⟩
    rw [e, Rat.intCast_mul]
    have : ((2 : Int) : Rat) = 2 := rfl
    rw [this]
    grind
  · rw [if_neg ho]
    have g1 := hu (i - y / 2)
    have g2 := hu (i - y / 2 + 2 * (y / 2))
    refine ⟨2 * z - u (i - y / 2) - u (i - y / 2 + 2 * (y / 2)), ?_, by omega⟩
    rw [e, Rat.intCast_sub, Rat.intCast_sub, Rat.intCast_mul, ← hs, ← hs]
    have : ((2 : Int) : Rat) = 2 := rfl
    rw [this]
    grind
/-- the numbers less the means -/
theorem ap_int {A : Nat} (hy : 0 < y) (hy2 : y ≤ 12) (hs : ∀ i, s i = (u i : Rat)) (hu : ∀ i, (u i).natAbs ≤ A) (i : Nat) : ∃ z : Int, (s i - M y s i) * ((2 * y : Nat) : Rat) = (z : Rat) ∧ z.natAbs ≤ 52 * A := by
  obtain ⟨z, h1, h2⟩ := M_int hy hy2 hs hu i
  have g := hu i
  refine ⟨u i * ((2 * y : Nat) : Int) - z, ?_, ?_⟩
  · rw [Rat.intCast_sub, Rat.intCast_mul, ← hs, ← h1]
    have : ((((2 * y : Nat) : Int)) : Rat) = ((2 * y : Nat) : Rat) := rfl
    rw [this]
    grind
  · have h3 : (u i * ((2 * y : Nat) : Int)).natAbs ≤ A * 24 := by
      rw [Int.natAbs_mul]
      exact Nat.mul_le_mul g (by simp; omega)
    omega
theorem lsum_int {b : Nat} {m : Rat} : ∀ {l : List Rat}, (∀ q ∈ l, ∃ z : Int, q * m = (z : Rat) ∧ z.natAbs ≤ b) → ∃ z : Int, l.sum * m = (z : Rat) ∧ z.natAbs ≤ l.length * b
  | [], _ => ⟨0, by rw [List.sum_nil, Rat.zero_mul]; rfl, Nat.zero_le _⟩
  | a :: r, h => by
    obtain ⟨z, h1, h2⟩ := h a List.mem_cons_self
    obtain ⟨w, g1, g2⟩ := lsum_int (l := r) fun q hq => h q (List.mem_cons_of_mem _ hq)
    refine ⟨z + w, by rw [List.sum_cons, Rat.intCast_add, ← h1, ← g1]; grind, ?_⟩
    rw [List.length_cons, Nat.succ_mul]
    omega
theorem tat_le (N y k : Nat) (hy : 0 < y) : (tat N y k).length ≤ N := by
  unfold tat
  rw [List.length_map]
  by_cases hk : N ≤ k
  · have : cnt N y k = 0 := by
      unfold cnt
      exact Nat.div_eq_of_lt (by omega)
    rw [this]
    exact Nat.zero_le _
  · have h1 := List.length_filter_le (fun t => valid N y (k + t * y)) (List.range (cnt N y k))
    rw [List.length_range] at h1
    have h2 : cnt N y k ≤ N := by
      unfold cnt
      refine Nat.div_le_of_le_mul ?_
      have : N - k + y - 1 ≤ N + y - 1 := by omega
      have h3 : N + y - 1 ≤ y * N := by
        obtain ⟨n, rfl⟩ : ∃ n, N = n + 1 := ⟨N - 1, by omega⟩
        rw [Nat.mul_succ]
        have : n ≤ y * n := Nat.le_mul_of_pos_left n hy
        omega
      omega
    omega
theorem F_int {A : Nat} (hy : 2 ≤ y) (hy2 : y ≤ 12) (hN : 2 * y ≤ N) (hN2 : N ≤ 120) (hs : ∀ i, s i = (u i : Rat)) (hu : ∀ i, (u i).natAbs ≤ A) {k : Nat} (hk : k < y) :
    ∃ z : Int, F N y s k * ((2 * y * fct N : Nat) : Rat) = (z : Rat) ∧ z.natAbs ≤ 6240 * A * fct N := by
  obtain ⟨z, h1, h2⟩ := lsum_int (b := 52 * A) (m := ((2 * y : Nat) : Rat)) (l := (tat N y k).map (fun i => s i - M y s i)) fun q hq => by
    obtain ⟨i, _, rfl⟩ := List.mem_map.mp hq
    exact ap_int (by omega) hy2 hs hu i
  have h3 := tat_pos hy hN hk
  have h4 := tat_le N y k (by omega)
  obtain ⟨c, hc⟩ := fct_dvd (n := N) h3 h4
  have h5 := cast_ne h3
  refine ⟨z * (c : Int), ?_, ?_⟩
  · unfold F
    have e : ((2 * y * fct N : Nat) : Rat) = ((2 * y : Nat) : Rat) * (((tat N y k).length : Nat) : Rat) * (c : Rat) := by rw [hc]; grind
    rw [e, Rat.intCast_mul, ← h1]
    have : (((c : Nat) : Int) : Rat) = (c : Rat) := rfl
    rw [this]
    grind
  · rw [Int.natAbs_mul]
    rw [List.length_map] at h2
    have g1 : (tat N y k).length * (52 * A) ≤ 120 * (52 * A) := Nat.mul_le_mul_right _ (by omega)
    have g2 : c ≤ fct N := by rw [hc]; exact Nat.le_mul_of_pos_left c h3
    have g3 : ((c : Nat) : Int).natAbs = c := rfl
    rw [g3]
    refine Nat.mul_le_mul ?_ g2
    omega
end
/-- a series of whole numbers within a million, its year -/
structure Ser (N y : Nat) (s : Nat → Rat) : Prop where
  y2 : 2 ≤ y
  y12 : y ≤ 12
  two : 2 * y ≤ N
  most : N ≤ 120
  whole : ∃ u : Nat → Int, (∀ i, s i = (u i : Rat)) ∧ ∀ i, (u i).natAbs ≤ 10 ^ 6
section
variable {N y : Nat} {s : Nat → Rat}
theorem Ser.fct_lt (h : Ser N y s) : fct N < 2 ^ 661 := Nat.lt_of_le_of_lt (fct_le h.most) fct_120
theorem Ser.c_num (h : Ser N y s) (i : Nat) : Ce (DD N y) BB (s i) := by
  obtain ⟨u, h1, h2⟩ := h.whole
  refine Ce.of (m := 1) (r := DD N y) (z := u i) (by rw [h1]; exact Rat.mul_one _) (Nat.one_mul _).symm ?_
  refine Nat.le_trans (Nat.mul_le_mul (h2 i) (Nat.le_of_lt (DD_lt h.y12 h.most))) ?_
  unfold BB
  decide +kernel
theorem Ser.c_M (h : Ser N y s) (i : Nat) : Ce (DD N y) BB (M y s i) := by
  obtain ⟨u, h1, h2⟩ := h.whole
  obtain ⟨z, g1, g2⟩ := M_int (by have := h.y2; omega) h.y12 h1 h2 i
  refine Ce.of (r := y * fct N) g1 (by unfold DD; rw [Nat.mul_assoc]) ?_
  have h3 : y * fct N ≤ 12 * 2 ^ 661 := Nat.mul_le_mul h.y12 (Nat.le_of_lt h.fct_lt)
  refine Nat.le_trans (Nat.mul_le_mul g2 h3) ?_
  unfold BB
  decide +kernel
theorem Ser.c_ap (h : Ser N y s) (i : Nat) : Ce (DD N y) BB (s i - M y s i) := by
  obtain ⟨u, h1, h2⟩ := h.whole
  obtain ⟨z, g1, g2⟩ := ap_int (by have := h.y2; omega) h.y12 h1 h2 i
  refine Ce.of (r := y * fct N) g1 (by unfold DD; rw [Nat.mul_assoc]) ?_
  have h3 : y * fct N ≤ 12 * 2 ^ 661 := Nat.mul_le_mul h.y12 (Nat.le_of_lt h.fct_lt)
  refine Nat.le_trans (Nat.mul_le_mul g2 h3) ?_
  unfold BB
  decide +kernel
theorem Ser.c_F (h : Ser N y s) {k : Nat} (hk : k < y) : Ce (DD N y) (2 ^ 800) (F N y s k) := by
  obtain ⟨u, h1, h2⟩ := h.whole
  obtain ⟨z, g1, g2⟩ := F_int h.y2 h.y12 h.two h.most h1 h2 hk
  refine Ce.of (r := y) g1 (by unfold DD; rw [Nat.mul_right_comm]) ?_
  have h3 : 6240 * 10 ^ 6 * fct N ≤ 6240 * 10 ^ 6 * 2 ^ 661 := Nat.mul_le_mul_left _ (Nat.le_of_lt h.fct_lt)
  refine Nat.le_trans (Nat.mul_le_mul (Nat.le_trans g2 h3) h.y12) ?_
  decide +kernel
theorem Ser.c_mid (h : Ser N y s) : Ce (DD N y) (2 ^ 800) (mid N y s) := by
  obtain ⟨u, h1, h2⟩ := h.whole
  obtain ⟨z, g1, g2⟩ := lsum_int (b := 6240 * 10 ^ 6 * fct N) (m := ((2 * y * fct N : Nat) : Rat)) (l := (List.range y).map (F N y s)) fun q hq => by
    obtain ⟨k, hk, rfl⟩ := List.mem_map.mp hq
    exact F_int h.y2 h.y12 h.two h.most h1 h2 (List.mem_range.mp hk)
  have hy' := cast_ne (show 0 < y by have := h.y2; omega)
  refine ⟨z, ?_, ?_⟩
  · unfold mid qsum
    rw [← g1]
    have e : ((DD N y : Nat) : Rat) = (y : Rat) * ((2 * y * fct N : Nat) : Rat) := by unfold DD; grind
    rw [e]
    grind
  · rw [List.length_map, List.length_range] at g2
    have h3 : 6240 * 10 ^ 6 * fct N ≤ 6240 * 10 ^ 6 * 2 ^ 661 := Nat.mul_le_mul_left _ (Nat.le_of_lt h.fct_lt)
    refine Nat.le_trans g2 (Nat.le_trans (Nat.mul_le_mul h.y12 h3) ?_)
    decide +kernel
theorem two800 : 2 ^ 800 + 2 ^ 800 = 2 ^ 801 := by decide +kernel
theorem two801 : 2 ^ 801 ≤ BB := by unfold BB; decide +kernel
theorem Ser.c_seas (h : Ser N y s) {k : Nat} (hk : k < y) : Ce (DD N y) (2 ^ 801) (seas N y s k) := ((h.c_F hk).sub h.c_mid).up (by rw [two800]; exact Nat.le_refl _)
theorem Ser.c_adj (h : Ser N y s) (i : Nat) : Ce (DD N y) (BB + BB) (adj N y s i) := ((h.c_num i).sub (h.c_seas (Nat.mod_lt i (by have := h.y2; omega)))).up (by have := two801; omega)
theorem Ser.sm {b : Nat} {q : Rat} (h : Ser N y s) (c : Ce (DD N y) b q) (hb : b ≤ 128 * BB) : Sm q := c.sm (DD_pos (by have := h.y2; omega)) (DD_4000 h.y12 h.most) (by have := BB_ok; omega)
theorem Ser.sms {b : Nat} {l : List Rat} (h : Ser N y s) (c : ∀ q ∈ l, Ce (DD N y) b q) (hb : b ≤ 128 * BB) (hl : l.length ≤ 128) : SmS l := Ce.sms c hl (DD_pos (by have := h.y2; omega)) (DD_4000 h.y12 h.most) (by have := BB_ok; omega)
end
/-- 1 / n -/
theorem sm_inv {n : Nat} (h0 : 0 < n) (h : n ≤ 1000) : Sm (1 / (n : Rat)) := by
  have e : (1 : Rat) / (n : Rat) = Rat.divInt 1 n := by
    rw [Rat.divInt_eq_div]
    rfl
  refine ⟨?_, ?_⟩
  · rw [e, Rat.num_divInt]
    have : Int.gcd (n : Int) 1 = 1 := Int.gcd_one_right _
    rw [this]
    have : (Int.sign (n : Int)) = 1 := Int.sign_eq_one_of_pos (by omega)
    rw [this]
    decide +kernel
  · rw [e, Rat.den_divInt, if_neg (by omega), Int.gcd_one_right]
    have : (n : Int).natAbs / 1 ≤ 1000 := by omega
    exact Nat.lt_of_le_of_lt this (by decide +kernel)
theorem num_inv' {n : Nat} (h0 : 0 < n) : (1 / (n : Rat)).num = 1 := by
  have e : (1 : Rat) / (n : Rat) = Rat.divInt 1 n := by
    rw [Rat.divInt_eq_div]
    rfl
  rw [e, Rat.num_divInt]
  have : Int.gcd (n : Int) 1 = 1 := Int.gcd_one_right _
  rw [this, Int.sign_eq_one_of_pos (by omega)]
  rfl
theorem den_inv' {n : Nat} (h0 : 0 < n) : (1 / (n : Rat)).den = n := by
  have e : (1 : Rat) / (n : Rat) = Rat.divInt 1 n := by
    rw [Rat.divInt_eq_div]
    rfl
  rw [e, Rat.den_divInt, if_neg (by omega), Int.gcd_one_right]
  omega
theorem sm_int {i : Int} (h : i.natAbs < 2 ^ 64) : Sm (i : Rat) := ⟨Nat.lt_trans (by rw [Rat.num_intCast]; exact h) (by decide +kernel), by rw [Rat.den_intCast]; decide +kernel⟩
end Cv

namespace Cv
open PySem PySem.Spec PyProof.Rows L2
open Evl (Ex)
/-! ### fractions as data -/
def dF (q : Rat) : PyData := .tuple [.int q.num, .int (q.den : Int)]
def dO : Option Rat → PyData
  | none => .none
  | some q => dF q
theorem shp_F (q : Rat) : shp 2 (dF q) := shp_tup fun d h => by
  rcases List.mem_cons.mp h with e | h
  · rw [e]; exact shp_int _
  · rcases List.mem_cons.mp h with e | h
    · rw [e]; exact shp_int _
    · cases h
theorem shp_O (o : Option Rat) : shp 2 (dO o) := by
  cases o with
  | none => exact shp_none.up (by decide)
  | some q => exact shp_F q
theorem shp_Fs (qs : List Rat) : shp 3 (.list (qs.map dF)) := shp_list fun d h => by
  obtain ⟨q, _, e⟩ := List.mem_map.mp h
  rw [← e]
  exact shp_F q
theorem shp_Os (qs : List (Option Rat)) : shp 3 (.list (qs.map dO)) := shp_list fun d h => by
  obtain ⟨q, _, e⟩ := List.mem_map.mp h
  rw [← e]
  exact shp_O q
theorem shp_Is (ns : List Int) : shp 2 (.list (ns.map .int)) := shp_list fun d h => by
  obtain ⟨q, _, e⟩ := List.mem_map.mp h
  rw [← e]
  exact shp_int q
theorem gcd_turn (a b : Int) : Int.gcd b (a % b) = Int.gcd a b := by
  have h : Int.gcd (a % b + b * (a / b)) b = Int.gcd (a % b) b := Int.gcd_add_mul_left_left _ _ _
  rw [Int.emod_add_mul_ediv] at h
  rw [Int.gcd_comm b, h]
theorem num_low {t b : Int} (h : 0 < b) : t / (Int.gcd t b : Int) = (Rat.divInt t b).num := by
  rw [Rat.num_divInt, Int.gcd_comm, Int.sign_eq_one_of_pos h, Int.one_mul]
theorem den_low {t b : Int} (h : 0 < b) : b / (Int.gcd t b : Int) = ((Rat.divInt t b).den : Int) := by
  rw [Rat.den_divInt, if_neg (by omega), Int.gcd_comm, Int.natCast_ediv]
  congr 1
  omega
theorem gcd_pos' {t b : Int} (h : 0 < b) : (0 : Int) < (Int.gcd t b : Int) := by
  have : 0 < Int.gcd t b := Int.gcd_pos_of_ne_zero_right t (by omega)
  omega
theorem gcd_le' {t b : Int} (h : 0 < b) : Int.gcd t b ≤ b.natAbs := Nat.le_of_dvd (by omega) (Int.gcd_dvd_natAbs_right t b)
theorem wdiv {t b : Int} (h : 0 < b) (hb : b.natAbs < 2 ^ 8900) : CDivW t (Int.gcd t b : Int) := wide_div (gcd_pos' h) (Nat.lt_of_le_of_lt (by simpa using gcd_le' h) hb) (by decide) (by decide)
theorem divInt_self (q : Rat) : Rat.divInt q.num q.den = q := Rat.num_divInt_den q
theorem den_ne (q : Rat) : ((q.den : Nat) : Int) ≠ 0 := by
  have := q.den_nz
  omega
theorem rat_add (q r : Rat) : Rat.divInt (q.num * r.den + r.num * q.den) (q.den * r.den) = q + r := by
  have h := Rat.divInt_add_divInt q.num r.num (den_ne q) (den_ne r)
  rw [divInt_self, divInt_self] at h
  rw [h]
theorem rat_sub (q r : Rat) : Rat.divInt (q.num * r.den - r.num * q.den) (q.den * r.den) = q - r := by
  have h := Rat.divInt_sub_divInt q.num r.num (den_ne q) (den_ne r)
  rw [divInt_self, divInt_self] at h
  rw [h]
theorem rat_mul (q r : Rat) : Rat.divInt (q.num * r.num) (q.den * r.den) = q * r := by
  have h := Rat.divInt_mul_divInt q.num r.num (d₁ := q.den) (d₂ := r.den)
  rw [divInt_self, divInt_self] at h
  rw [h]
theorem Sm.mul_nd {q r : Rat} (h : Sm q) (g : Sm r) : CMulW q.num (r.den : Int) := wide_mul h.1 (show (r.den : Int).natAbs < 2 ^ 4000 by simpa using g.2) (by decide) (by decide) (by decide)
theorem Sm.mul_dd {q r : Rat} (h : Sm q) (g : Sm r) : CMulW (q.den : Int) (r.den : Int) := wide_mul (show (q.den : Int).natAbs < 2 ^ 4000 by simpa using h.2) (show (r.den : Int).natAbs < 2 ^ 4000 by simpa using g.2) (by decide) (by decide) (by decide)
theorem Sm.mul_nn {q r : Rat} (h : Sm q) (g : Sm r) : CMulW q.num r.num := wide_mul h.1 g.1 (by decide) (by decide) (by decide)
theorem Sm.dd_lt {q r : Rat} (h : Sm q) (g : Sm r) : ((q.den : Int) * (r.den : Int)).natAbs < 2 ^ 8900 :=
  Nat.lt_of_lt_of_le (wide_lt (show (q.den : Int).natAbs < 2 ^ 4000 by simpa using h.2) (show (r.den : Int).natAbs < 2 ^ 4000 by simpa using g.2)) (Nat.pow_le_pow_right (by decide) (by decide))
theorem dd_pos (q r : Rat) : (0 : Int) < (q.den : Int) * (r.den : Int) := by
  have h1 := q.den_pos
  have h2 := r.den_pos
  exact Int.mul_pos (by omega) (by omega)

section
variable {X : Cx} {ex : List Addr} {R : Hp → Prop} {D : Ends} {Γ : List Sl} {rest : List Stmt} {a b : Expr} {d1 d2 : PyData}
theorem sd_par (i j : Nat) {x y : Str} {px py pt pos : Pos} {kt k2 : Nat} {pt2 : Pos} (hR : RO ex R) (hc : X.calm = true) (hN : X.N.Nodup) (hi : X.N[i]? = some x) (hj : X.N[j]? = some y) (hij : i ≠ j) (hx : X.env.scope.names.lookup x = some .local) (hy : X.env.scope.names.lookup y = some .local)
    (ha : AD X ex Γ [a, b] [d1, d2]) (k : SD X ex R D ((Γ.set i (.dat d1)).set j (.dat d2)) rest)
    (hw : swappedStores [.Tuple [.Name x px, .Name y py] kt pt] (.Tuple [a, b] k2 pt2) X.env = pure (some [x, y]) := by rfl)
    (hs : swapsWithSole [.Tuple [.Name x px, .Name y py] kt pt] (.Tuple [a, b] k2 pt2) pos.line X.env = pure false := by rfl) :
    SD X ex R D Γ (.Assign [.Tuple [.Name x px, .Name y py] kt pt] (.Tuple [a, b] k2 pt2) pos :: rest) := fun σ H E q => by
  refine ws_cons (ps_par hc hN hi hj hij hx hy pa_w hw hs) ?_
  refine ha σ H E (hR.al H q) _ fun vs H1 e1 h1 => ?_
  obtain ⟨v, w', rfl, g1, g2⟩ := h1.two
  exact ⟨v, w', rfl, k _ H1 (((E.up (era_ex e1)).setD g1).setD g2) (hR.up H H1 q e1)⟩
end
/-! ### what the defs tell -/
def cShared (ds : List PyData) (d : PyData) : Prop := ∃ a b : Int, ds = [.int a, .int b] ∧ 0 ≤ b ∧ d = .int (Int.gcd a b)
def cLowest (ds : List PyData) (d : PyData) : Prop := ∃ t b : Int, ds = [.int t, .int b] ∧ 0 < b ∧ b.natAbs < 2 ^ 8900 ∧ d = dF (Rat.divInt t b)
def cPlus (ds : List PyData) (d : PyData) : Prop := ∃ q r : Rat, ds = [dF q, dF r] ∧ Sm q ∧ Sm r ∧ d = dF (q + r)
def cMinus (ds : List PyData) (d : PyData) : Prop := ∃ q r : Rat, ds = [dF q, dF r] ∧ Sm q ∧ Sm r ∧ d = dF (q - r)
def cTimes (ds : List PyData) (d : PyData) : Prop := ∃ q r : Rat, ds = [dF q, dF r] ∧ Sm q ∧ Sm r ∧ d = dF (q * r)
def cSum (ds : List PyData) (d : PyData) : Prop := ∃ qs : List Rat, ds = [.list (qs.map dF)] ∧ SmS qs ∧ d = dF qs.sum
theorem sum_take1 {qs : List Rat} {i : Nat} (h : i < qs.length) : (qs.take (i + 1)).sum = (qs.take i).sum + qs[i] := by
  rw [List.take_succ_eq_append_getElem h, List.sum_append, List.sum_cons, List.sum_nil, Rat.add_zero]
theorem ix0 {d e : PyData} : L2.atI [d, e] 0 = some d := by rfl
theorem ix1 {d e : PyData} : L2.atI [d, e] 1 = some e := by rfl
theorem getD_F {qs : List Rat} {i : Nat} (h : i < qs.length) : (qs.map dF).getD i .none = dF qs[i] := by
  rw [List.getD_eq_getElem?_getD, List.getElem?_map, List.getElem?_eq_getElem h]
  rfl
theorem sc7 : FnScope ["one", "other"] ["one", "other"] (defScope (topS 7)) := ⟨rfl, rfl, rfl, by decide +kernel, rfl, by decide +kernel, by decide +kernel⟩
theorem sc10 : FnScope ["top", "bottom", "common"] ["top", "bottom"] (defScope (topS 10)) := ⟨rfl, rfl, rfl, by decide +kernel, rfl, by decide +kernel, by decide +kernel⟩
theorem sc11 : FnScope ["one", "other"] ["one", "other"] (defScope (topS 11)) := ⟨rfl, rfl, rfl, by decide +kernel, rfl, by decide +kernel, by decide +kernel⟩
theorem sc12 : FnScope ["one", "other"] ["one", "other"] (defScope (topS 12)) := ⟨rfl, rfl, rfl, by decide +kernel, rfl, by decide +kernel, by decide +kernel⟩
theorem sc13 : FnScope ["one", "other"] ["one", "other"] (defScope (topS 13)) := ⟨rfl, rfl, rfl, by decide +kernel, rfl, by decide +kernel, by decide +kernel⟩
theorem sc14 : FnScope ["fractions", "found", "one"] ["fractions"] (defScope (topS 14)) := ⟨rfl, rfl, rfl, by decide +kernel, rfl, by decide +kernel, by decide +kernel⟩
section
variable {P : Program} {w : World} {K : PySem.W.Frag} {mg : Str → Option Value} {base : Heap}
theorem ok7 {f : Addr} {fd : FuncData} (F : Fun K "shared" "shared" (topS 7) f fd) (mabs : mg "abs" = none) : FnOk P w K mg base CX0 1 f fd ["one", "other"] (spD cShared) := by
  refine ok_body F sc7 (fun ds d ⟨a, b, e, _, _⟩ => by rw [e]; rfl) fun cdv A outer s H0 E ds d ex hr hC D hD _ => ?_
  obtain ⟨a, b, rfl, hb, rfl⟩ := hC
  refine sd_while (τ := Int × Int) (fun t => [.dat (.int t.1), .dat (.int t.2)]) (fun t => 0 ≤ t.2 ∧ Int.gcd t.1 t.2 = Int.gcd a b) (fun t => t.2.toNat) (a, b) PassesOwn.never ro_p (less_refl _) ⟨hb, rfl⟩ fun t it => ?_
  obtain ⟨u, v⟩ := t
  obtain ⟨i1, i2⟩ := it
  refine ⟨_, td_neI hr.units (pd_var (i := 1) rfl (.inl rfl) rfl) pd_int, fun hb1 => ?_, fun hb0 => ?_⟩
  · have hv : v ≠ 0 := by simpa using hb1
    have hv2 : 0 < v := by have : 0 ≤ v := i1; omega
    refine sd_par 0 1 ro_p rfl sc7.nd rfl rfl (by decide) rfl rfl (ad_cons (pd_var (i := 1) rfl (.inl rfl) rfl) (ad_cons (pd_mod (pd_var (i := 0) rfl (.inl rfl) rfl) (pd_var (i := 1) rfl (.inl rfl) rfl) hv2) ad_nil)) ?_
    refine sd_wend (v, u % v) ⟨Int.emod_nonneg _ hv, (gcd_turn u v).trans i2⟩ ?_ (less_refl _)
    have := Int.emod_lt_of_pos u hv2
    have := Int.emod_nonneg u hv
    show (u % v).toNat < v.toNat
    omega
  · have hv : v = 0 := by simpa using hb0
    subst hv
    refine sd_ret ro_p (pd_abs rfl mabs (pd_var (i := 0) rfl (.inl rfl) rfl)) fun v' H' r hd => hD v' H' r ?_
    rw [← i2, Int.gcd_zero_right]
    exact hd
theorem ok10 {f : Addr} {fd : FuncData} (F : Fun K "lowest" "lowest" (topS 10) f fd) (dS : Dn P w K mg base "shared" 1 ["one", "other"] (spD cShared)) : FnOk P w K mg base CX0 2 f fd ["top", "bottom"] (spD cLowest) := by
  refine ok_body F sc10 (fun ds d ⟨a, b, e, _, _, _⟩ => by rw [e]; rfl) fun cdv A outer s H0 E ds d ex hr hC D hD _ => ?_
  obtain ⟨t, b, rfl, hb, hz, rfl⟩ := hC
  refine sd_set 2 ro_p sc10.nd rfl (.inl rfl) (pd_call dS hr rfl (ad_cons (pd_var (i := 0) rfl (.inl rfl) rfl) (ad_cons (pd_var (i := 1) rfl (.inl rfl) rfl) ad_nil)) ⟨t, b, rfl, by omega, rfl⟩) ?_
  refine sd_skip ro_p ((td_lt (pd_var (i := 1) rfl (.inl rfl) rfl) pd_int).to (decide_eq_false (by omega))) ?_
  refine sd_ret ro_p (pd_tup (ad_cons (pd_fdiv (pd_var (i := 0) rfl (.inl rfl) rfl) (pd_var (i := 2) rfl (.inl rfl) rfl) (wdiv hb hz)) (ad_cons (pd_fdiv (pd_var (i := 1) rfl (.inl rfl) rfl) (pd_var (i := 2) rfl (.inl rfl) rfl) (wdiv hb hz)) ad_nil))) fun v H r hd => hD v H r ?_
  rw [num_low hb, den_low hb] at hd
  exact hd
theorem ok11 {f : Addr} {fd : FuncData} (F : Fun K "plus" "plus" (topS 11) f fd) (dL : Dn P w K mg base "lowest" 2 ["top", "bottom"] (spD cLowest)) : FnOk P w K mg base CX0 3 f fd ["one", "other"] (spD cPlus) := by
  refine ok_body F sc11 (fun ds d ⟨a, b, e, _, _⟩ => by rw [e]; rfl) fun cdv A outer s H0 E ds d ex hr hC D hD _ => ?_
  obtain ⟨q, r, rfl, hq, hr', rfl⟩ := hC
  refine sd_ret ro_p (pd_call dL hr rfl (ad_cons (pd_add (pd_mul (pd_ixT (pd_var (i := 0) rfl (.inl rfl) rfl) pd_int ix0) (pd_ixT (pd_var (i := 1) rfl (.inl rfl) rfl) pd_int ix1) (hq.mul_nd hr'))
    (pd_mul (pd_ixT (pd_var (i := 1) rfl (.inl rfl) rfl) pd_int ix0) (pd_ixT (pd_var (i := 0) rfl (.inl rfl) rfl) pd_int ix1) (hr'.mul_nd hq)))
    (ad_cons (pd_mul (pd_ixT (pd_var (i := 0) rfl (.inl rfl) rfl) pd_int ix1) (pd_ixT (pd_var (i := 1) rfl (.inl rfl) rfl) pd_int ix1) (hq.mul_dd hr')) ad_nil)) ⟨_, _, rfl, dd_pos q r, hq.dd_lt hr', rfl⟩) fun v H r' hd => hD v H r' ?_
  rw [rat_add] at hd
  exact hd
theorem ok12 {f : Addr} {fd : FuncData} (F : Fun K "minus" "minus" (topS 12) f fd) (dL : Dn P w K mg base "lowest" 2 ["top", "bottom"] (spD cLowest)) : FnOk P w K mg base CX0 3 f fd ["one", "other"] (spD cMinus) := by
  refine ok_body F sc12 (fun ds d ⟨a, b, e, _, _⟩ => by rw [e]; rfl) fun cdv A outer s H0 E ds d ex hr hC D hD _ => ?_
  obtain ⟨q, r, rfl, hq, hr', rfl⟩ := hC
  refine sd_ret ro_p (pd_call dL hr rfl (ad_cons (pd_sub (pd_mul (pd_ixT (pd_var (i := 0) rfl (.inl rfl) rfl) pd_int ix0) (pd_ixT (pd_var (i := 1) rfl (.inl rfl) rfl) pd_int ix1) (hq.mul_nd hr'))
    (pd_mul (pd_ixT (pd_var (i := 1) rfl (.inl rfl) rfl) pd_int ix0) (pd_ixT (pd_var (i := 0) rfl (.inl rfl) rfl) pd_int ix1) (hr'.mul_nd hq)))
    (ad_cons (pd_mul (pd_ixT (pd_var (i := 0) rfl (.inl rfl) rfl) pd_int ix1) (pd_ixT (pd_var (i := 1) rfl (.inl rfl) rfl) pd_int ix1) (hq.mul_dd hr')) ad_nil)) ⟨_, _, rfl, dd_pos q r, hq.dd_lt hr', rfl⟩) fun v H r' hd => hD v H r' ?_
  rw [rat_sub] at hd
  exact hd
theorem ok13 {f : Addr} {fd : FuncData} (F : Fun K "times" "times" (topS 13) f fd) (dL : Dn P w K mg base "lowest" 2 ["top", "bottom"] (spD cLowest)) : FnOk P w K mg base CX0 3 f fd ["one", "other"] (spD cTimes) := by
  refine ok_body F sc13 (fun ds d ⟨a, b, e, _, _⟩ => by rw [e]; rfl) fun cdv A outer s H0 E ds d ex hr hC D hD _ => ?_
  obtain ⟨q, r, rfl, hq, hr', rfl⟩ := hC
  refine sd_ret ro_p (pd_call dL hr rfl (ad_cons (pd_mul (pd_ixT (pd_var (i := 0) rfl (.inl rfl) rfl) pd_int ix0) (pd_ixT (pd_var (i := 1) rfl (.inl rfl) rfl) pd_int ix0) (hq.mul_nn hr'))
    (ad_cons (pd_mul (pd_ixT (pd_var (i := 0) rfl (.inl rfl) rfl) pd_int ix1) (pd_ixT (pd_var (i := 1) rfl (.inl rfl) rfl) pd_int ix1) (hq.mul_dd hr')) ad_nil)) ⟨_, _, rfl, dd_pos q r, hq.dd_lt hr', rfl⟩) fun v H r' hd => hD v H r' ?_
  rw [rat_mul] at hd
  exact hd
theorem ok14 {f : Addr} {fd : FuncData} (F : Fun K "sum_of" "sum_of" (topS 14) f fd) (dP : Dn P w K mg base "plus" 3 ["one", "other"] (spD cPlus)) : FnOk P w K mg base CX0 4 f fd ["fractions"] (spD cSum) := by
  refine ok_body F sc14 (fun ds d ⟨a, e, _⟩ => by rw [e]; rfl) fun cdv A outer s H0 E ds d ex hr hC D hD _ => ?_
  obtain ⟨qs, rfl, hs, rfl⟩ := hC
  refine sd_set 1 ro_p sc14.nd rfl (.inl rfl) ((pd_tup (ad_cons pd_int (ad_cons pd_int ad_nil))).to (show _ = dF 0 by rfl)) ?_
  refine sd_for (fun i => [.dat (.list (qs.map dF)), .dat (dF (qs.take i).sum), .non]) _ (fun _ => RP ex H0) PassesOwn.never rfl ro_p (fun _ => ro_p) (iv_list (pd_var (i := 0) rfl (.inl rfl) rfl)) (gfr_name 2 sc14.nd rfl (.inl rfl)) (less_refl _) (fun _ h => h) (fun i hi Hb => ?_) ?_
  · have hi' : i < qs.length := by simpa using hi
    refine sd_set 1 (ro_p.base Hb) sc14.nd rfl (.inl rfl) (pd_call dP hr rfl (ad_cons (pd_var (i := 1) rfl (.inl rfl) rfl) (ad_cons (pd_var (i := 2) rfl (.inl rfl) rfl) ad_nil)) ⟨_, _, by rw [getD_F hi'], hs.2 i, hs.1 _ (List.getElem_mem hi'), rfl⟩) ?_
    rw [← sum_take1 hi']
    exact sd_nil fun σ H E' q => ⟨E'.less ⟨rfl, fun j s hj => by
      match j, hj with
      | 0, hj => exact .inr hj
      | 1, hj => exact .inr hj
      | 2, hj => exact .inl (Option.some.inj hj).symm⟩, q⟩
  · refine sd_ret ro_p ((pd_var (i := 1) rfl (.inl rfl) rfl).to ?_) hD
    rw [List.length_map, List.take_length]
end
end Cv

namespace Cv
open PySem PySem.Spec PyProof.Rows L2
open Evl (Ex)
/-! ### series -/
abbrev dS (l : List Int) : PyData := .list (l.map PyData.int)
def sF (l : List Int) : Nat → Rat := fun i => ((l.getD i 0 : Int) : Rat)
structure Good (l : List Int) (y : Nat) : Prop where
  y2 : 2 ≤ y
  y12 : y ≤ 12
  two : 2 * y ≤ l.length
  most : l.length ≤ 120
  small : ∀ x ∈ l, x.natAbs ≤ 10 ^ 6
theorem getD_small {l : List Int} {b : Nat} (h : ∀ x ∈ l, x.natAbs ≤ b) (i : Nat) : (l.getD i 0).natAbs ≤ b := by
  rw [List.getD_eq_getElem?_getD]
  cases e : l[i]? with
  | none => exact Nat.zero_le _
  | some x => exact h x (List.mem_of_getElem? e)
theorem Good.ser {l : List Int} {y : Nat} (h : Good l y) : Ser l.length y (sF l) :=
  ⟨h.y2, h.y12, h.two, h.most, fun i => l.getD i 0, fun _ => rfl, fun i => getD_small h.small i⟩
def meanO (l : List Int) (y i : Nat) : Option Rat := if valid l.length y i = true then some (M y (sF l) i) else none
def cWhole (ds : List PyData) (d : PyData) : Prop := ∃ i : Int, ds = [.int i] ∧ d = .bool true
def cFrac (ds : List PyData) (d : PyData) : Prop := ∃ q : Rat, ds = [dF q] ∧ d = .bool true
def cIsSer (ds : List PyData) (d : PyData) : Prop := ∃ l : List Int, ds = [dS l] ∧ 4 ≤ l.length ∧ l.length ≤ 120 ∧ (∀ x ∈ l, x.natAbs ≤ 10 ^ 6) ∧ d = .bool true
def cMust (ds : List PyData) (d : PyData) : Prop := ∃ (l : List Int) (y : Nat), ds = [dS l, .int (y : Int)] ∧ Good l y ∧ d = .none
def cMR (ds : List PyData) (d : PyData) : Prop := ∃ (l : List Int) (y i : Nat), ds = [dS l, .int (y : Int), .int (i : Int)] ∧ Good l y ∧ i < l.length ∧ d = dO (meanO l y i)
def cMeans (ds : List PyData) (d : PyData) : Prop := ∃ (l : List Int) (y : Nat), ds = [dS l, .int (y : Int)] ∧ Good l y ∧ d = .list ((List.range l.length).map fun i => dO (meanO l y i))
/-! ### lists cut -/
theorem cutD_nat (ds : List PyData) (a b : Nat) (hb : b ≤ ds.length) (hab : a ≤ b) : cutD ds (some (a : Int)) (some (b : Int)) = (ds.drop a).take (b - a) := by
  unfold cutD
  rw [HT.sIx_nat, HT.sIx_nat, Nat.min_eq_left (Nat.le_trans hab hb), Nat.min_eq_left hb]
theorem cut_ints (l : List Int) (a b : Nat) (hb : b ≤ l.length) (hab : a ≤ b) : cutD (l.map PyData.int) (some (a : Int)) (some (b : Int)) = ((l.drop a).take (b - a)).map PyData.int := by
  rw [cutD_nat _ a b (by rw [List.length_map]; exact hb) hab, List.map_take, List.map_drop]
theorem sum_cut (l : List Int) (a : Nat) : ∀ m, a + m ≤ l.length → (((((l.drop a).take m).sum : Int)) : Rat) = qsum m (fun j => sF l (a + j))
  | 0, _ => rfl
  | m + 1, h => by
    have h1 : m < (l.drop a).length := by rw [List.length_drop]; omega
    rw [List.take_succ_eq_append_getElem h1, List.sum_append, List.sum_cons, List.sum_nil, Int.add_zero, Rat.intCast_add, sum_cut l a m (by omega), qsum_succ]
    congr 1
    unfold sF
    rw [List.getElem_drop, List.getD_eq_getElem?_getD, List.getElem?_eq_getElem (by omega)]
    rfl
theorem sum_small {l : List Int} {b : Nat} (h : ∀ x ∈ l, x.natAbs ≤ b) : l.sum.natAbs ≤ l.length * b := by
  induction l with
  | nil => exact Nat.zero_le _
  | cons a r ih =>
    have h1 := h a List.mem_cons_self
    have h2 := ih fun x hx => h x (List.mem_cons_of_mem _ hx)
    rw [List.sum_cons, List.length_cons, Nat.succ_mul]
    omega
theorem atI_last' {α : Type} {xs : List α} {v : α} (h : xs[xs.length - 1]? = some v) (h0 : 0 < xs.length) : L2.atI xs (-1) = some v := by
  have e : xs = xs.dropLast ++ [v] := by
    have h1 : xs ≠ [] := List.length_pos_iff.mp h0
    have h2 := List.dropLast_concat_getLast h1
    rw [List.getLast_eq_getElem] at h2
    rw [List.getElem?_eq_getElem (by omega)] at h
    rw [← Option.some.inj h]
    exact h2.symm
  rw [e]
  exact L2.atI_last _ _
theorem list_at {l : List Int} {i : Nat} (h : i < l.length) : L2.atI (l.map PyData.int) (i : Int) = some (.int (l.getD i 0)) := by
  refine L2.atI_nat ?_
  rw [List.getElem?_map, List.getElem?_eq_getElem h, List.getD_eq_getElem?_getD, List.getElem?_eq_getElem h]
  rfl
theorem range_at {n : Nat} {f : Nat → PyData} {i : Nat} (h : i < n) : L2.atI ((List.range n).map f) (i : Int) = some (f i) := by
  refine L2.atI_nat ?_
  rw [List.getElem?_map, List.getElem?_range h]
  rfl
theorem range_getD {n : Nat} {f : Nat → PyData} {i : Nat} (h : i < n) : ((List.range n).map f).getD i .none = f i := by
  rw [List.getD_eq_getElem?_getD, List.getElem?_map, List.getElem?_range h]
  rfl
theorem ints_getD {l : List Int} {i : Nat} (h : i < l.length) : (l.map PyData.int).getD i .none = .int (l.getD i 0) := by
  rw [List.getD_eq_getElem?_getD, List.getElem?_map, List.getElem?_eq_getElem h, List.getD_eq_getElem?_getD, List.getElem?_eq_getElem h]
  rfl
theorem sc8 : FnScope ["thing"] ["thing"] (defScope (topS 8)) := ⟨rfl, rfl, rfl, by decide +kernel, rfl, by decide +kernel, by decide +kernel⟩
theorem sc9 : FnScope ["thing"] ["thing"] (defScope (topS 9)) := ⟨rfl, rfl, rfl, by decide +kernel, rfl, by decide +kernel, by decide +kernel⟩
theorem sc21 : FnScope ["thing", "number"] ["thing"] (defScope (topS 21)) := ⟨rfl, rfl, rfl, by decide +kernel, rfl, by decide +kernel, by decide +kernel⟩
theorem sc22 : FnScope ["series", "year"] ["series", "year"] (defScope (topS 22)) := ⟨rfl, rfl, rfl, by decide +kernel, rfl, by decide +kernel, by decide +kernel⟩
theorem sc23 : FnScope ["series", "year", "i", "half", "numbers"] ["series", "year", "i"] (defScope (topS 23)) := ⟨rfl, rfl, rfl, by decide +kernel, rfl, by decide +kernel, by decide +kernel⟩
theorem sc24 : FnScope ["series", "year", "i"] ["series", "year"] (defScope (topS 24)) := ⟨rfl, rfl, rfl, by decide +kernel, rfl, by decide +kernel, by decide +kernel⟩
theorem kit_ii (i : Int) : kitB (tyName (.int i)) "int" = some true := (by decide +kernel : kitB "int" "int" = some true)
theorem kit_ib (i : Int) : kitB (tyName (.int i)) "bool" = some false := (by decide +kernel : kitB "int" "bool" = some false)
theorem kit_ll (ds : List PyData) : kitB (tyName (.list ds)) "list" = some true := (by decide +kernel : kitB "list" "list" = some true)
theorem kit_tt (ds : List PyData) : kitB (tyName (.tuple ds)) "tuple" = some true := (by decide +kernel : kitB "tuple" "tuple" = some true)
/-- what the module's names hold -/
structure Mg (mg : Str → Option Value) : Prop where
  abs : mg "abs" = none
  isi : mg "isinstance" = none
  int : mg "int" = none
  bool : mg "bool" = none
  tuple : mg "tuple" = none
  list : mg "list" = none
  len : mg "len" = none
  all : mg "all" = none
  range : mg "range" = none
  sum : mg "sum" = none
  enum : mg "enumerate" = none
  zip : mg "zip" = none
  max : mg "max" = none
  ll : ∃ t, mg "LEAST_LENGTH" = some (.int 4 t)
  ml : ∃ t, mg "MOST_LENGTH" = some (.int 120 t)
  mn : ∃ t, mg "MOST_NUMBER" = some (.int 1000000 t)
  ly : ∃ t, mg "LEAST_YEAR" = some (.int 2 t)
  my : ∃ t, mg "MOST_YEAR" = some (.int 12 t)
section
variable {P : Program} {w : World} {K : PySem.W.Frag} {mg : Str → Option Value} {base : Heap}
theorem ok8 {f : Addr} {fd : FuncData} (F : Fun K "is_whole" "is_whole" (topS 8) f fd) (m : Mg mg) : FnOk P w K mg base CX0 1 f fd ["thing"] (spD cWhole) := by
  refine ok_body F sc8 (fun ds d ⟨a, e, _⟩ => by rw [e]; rfl) fun cdv A outer s H0 E ds d ex hr hC D hD _ => ?_
  obtain ⟨i, rfl, rfl⟩ := hC
  exact sd_ret ro_p (pd_and (x := true) (y := true) (pd_isi (by rfl) m.isi (by rfl) m.int boot_int (pd_var (i := 0) rfl (.inl rfl) rfl) (kit_ii _))
    fun _ => pd_one (pd_not (x := false) (pd_isi (by rfl) m.isi (by rfl) m.bool boot_bool (pd_var (i := 0) rfl (.inl rfl) rfl) (kit_ib _)))) hD
theorem ok9 {f : Addr} {fd : FuncData} (F : Fun K "is_fraction" "is_fraction" (topS 9) f fd) (m : Mg mg) (dW : Dn P w K mg base "is_whole" 1 ["thing"] (spD cWhole)) (dS : Dn P w K mg base "shared" 1 ["one", "other"] (spD cShared)) :
    FnOk P w K mg base CX0 2 f fd ["thing"] (spD cFrac) := by
  refine ok_body F sc9 (fun ds d ⟨a, e, _⟩ => by rw [e]; rfl) fun cdv A outer s H0 E ds d ex hr hC D hD _ => ?_
  obtain ⟨q, rfl, rfl⟩ := hC
  refine sd_skip ro_p ((tw_or (x := false) (y := false) (td_not (x := true) (td_val (pd_isi (by rfl) m.isi (by rfl) m.tuple boot_tuple (pd_var (i := 0) rfl (.inl rfl) rfl) (kit_tt _)))) fun _ =>
    tw_or (x := false) (y := false) ((td_neI hr.units (pd_lenT (by rfl) m.len (pd_var (i := 0) rfl (.inl rfl) rfl)) pd_int).to (by rfl)) fun _ =>
    tw_or (x := false) (y := false) (td_not (x := true) (td_val (pd_call dW hr (by rfl) (ad_cons (pd_ixT (pd_var (i := 0) rfl (.inl rfl) rfl) pd_int ix0) ad_nil) ⟨_, rfl, rfl⟩))) fun _ =>
    tw_or1 (td_not (x := true) (td_val (pd_call dW hr (by rfl) (ad_cons (pd_ixT (pd_var (i := 0) rfl (.inl rfl) rfl) pd_int ix1) ad_nil) ⟨_, rfl, rfl⟩)))).td) ?_
  have h1 := q.den_pos
  have hg : Int.gcd q.num (q.den : Int) = 1 := by
    have := q.reduced
    unfold Nat.Coprime at this
    exact this
  refine sd_ret ro_p (pd_and (x := true) (y := true) ((pd_ge (pd_ixT (pd_var (i := 0) rfl (.inl rfl) rfl) pd_int ix1) pd_int).to (by rw [decide_eq_true (show (1 : Int) ≤ (q.den : Int) by omega)])) fun _ =>
    pd_one ((pd_eqI hr.units (pd_call dS hr (by rfl) (ad_cons (pd_ixT (pd_var (i := 0) rfl (.inl rfl) rfl) pd_int ix0) (ad_cons (pd_ixT (pd_var (i := 0) rfl (.inl rfl) rfl) pd_int ix1) ad_nil)) ⟨_, _, rfl, by omega, rfl⟩) pd_int).to (by rw [hg]; rfl))) hD
theorem bools_all {n : Nat} : (List.range n).map (fun _ => PyData.bool true) = (List.replicate n true).map PyData.bool := by
  rw [List.map_const', List.length_range, List.map_replicate]
theorem all_rep (n : Nat) : (List.replicate n true).all id = true := by
  rw [List.all_eq_true]
  intro x hx
  rw [(List.mem_replicate.mp hx).2]
  rfl
theorem ok21 {f : Addr} {fd : FuncData} (F : Fun K "is_series" "is_series" (topS 21) f fd) (m : Mg mg) (dW : Dn P w K mg base "is_whole" 1 ["thing"] (spD cWhole)) :
    FnOk P w K mg base CX0 2 f fd ["thing"] (spD cIsSer) := by
  refine ok_body F sc21 (fun ds d ⟨a, e, _⟩ => by rw [e]; rfl) fun cdv A outer s H0 E ds d ex hr hC D hD _ => ?_
  obtain ⟨l, rfl, h4, h120, hb, rfl⟩ := hC
  obtain ⟨t4, e4⟩ := m.ll
  obtain ⟨tm, em⟩ := m.ml
  obtain ⟨tn, en⟩ := m.mn
  refine sd_skip ro_p ((tw_or (x := false) (y := false) (td_not (x := true) (td_val (pd_isi (by rfl) m.isi (by rfl) m.list boot_list (pd_var (i := 0) rfl (.inl rfl) rfl) (kit_ll _)))) fun _ =>
    tw_or1 (td_not (x := true) ((td_chain (pd_glob (by rfl) e4) (pd_len (by rfl) m.len (pd_var (i := 0) rfl (.inl rfl) rfl)) (pd_glob (by rfl) em)).to (by rw [List.length_map, decide_eq_true (by omega), decide_eq_true (by omega)]; rfl)))).td) ?_
  refine sd_ret ro_p ((pd_all (bs := List.replicate l.length true) (by rfl) (by rfl) m.all ((pd_lc rfl sc21.nd (lc_one (j := 1) (yd := fun _ => .bool true) (blkOk_by (N := ["thing", "number"]) (sc := defScope (topS 21)) (by decide +kernel)) (iv_list (pd_var (i := 0) rfl (.inl rfl) rfl)) (by rw [List.length_map]; omega) (fun _ _ _ _ _ => pg_name sc21.nd rfl (.inl rfl)) fun i hi Dl s' H' C cl fp => ?_)).to ?_)).to ?_) hD
  · rw [List.length_map] at hi
    have hx := getD_small hb i
    rw [ints_getD hi]
    refine pd_and (x := true) (y := true) (pd_call dW hr (by rfl) (ad_cons (pd_var (i := 1) rfl (.inl rfl) rfl) ad_nil) ⟨_, rfl, rfl⟩) fun _ => pd_one ((pd_chain (pd_sub pd_int (pd_glob (by rfl) en)) (pd_var (i := 1) rfl (.inl rfl) rfl) (pd_glob (by rfl) en)).to ?_)
    rw [decide_eq_true (by omega), decide_eq_true (by omega)]
    rfl
  · rw [List.length_map, bools_all]
  · rw [all_rep]
theorem ok22 {f : Addr} {fd : FuncData} (F : Fun K "must_be_series" "must_be_series" (topS 22) f fd) (m : Mg mg) (dI : Dn P w K mg base "is_series" 2 ["thing"] (spD cIsSer)) :
    FnOk P w K mg base CX0 3 f fd ["series", "year"] (spD cMust) := by
  refine ok_body F sc22 (fun ds d ⟨a, b, e, _⟩ => by rw [e]; rfl) fun cdv A outer s H0 E ds d ex hr hC D hD hN => ?_
  obtain ⟨l, y, rfl, g, rfl⟩ := hC
  obtain ⟨t4, e4⟩ := m.ly
  obtain ⟨tm, em⟩ := m.my
  have g1 := g.y2
  have g2 := g.y12
  have g3 := g.two
  refine sd_skip ro_p (td_not (x := true) (td_val (pd_call dI hr (by rfl) (ad_cons (pd_var (i := 0) rfl (.inl rfl) rfl) ad_nil) ⟨l, rfl, by omega, g.most, g.small, rfl⟩))) ?_
  refine sd_skip ro_p ((tw_or (x := false) (y := false) (td_not (x := true) ((td_chain (pd_glob (by rfl) e4) (pd_var (i := 1) rfl (.inl rfl) rfl) (pd_glob (by rfl) em)).to (by rw [decide_eq_true (by omega), decide_eq_true (by omega)]; rfl))) fun _ =>
    tw_or1 ((td_lt (pd_len (by rfl) m.len (pd_var (i := 0) rfl (.inl rfl) rfl)) (pd_mul pd_int (pd_var (i := 1) rfl (.inl rfl) rfl) (wide_mul (a := 64) (b := 64) (by decide) (by omega) (by decide) (by decide) (by decide)))).to (decide_eq_false (by rw [List.length_map]; omega)))).td) ?_
  exact sd_nil fun σ H E' q => hN σ H q rfl
theorem ok23 {f : Addr} {fd : FuncData} (F : Fun K "mean_round" "mean_round" (topS 23) f fd) (m : Mg mg) (dL : Dn P w K mg base "lowest" 2 ["top", "bottom"] (spD cLowest)) :
    FnOk P w K mg base CX0 3 f fd ["series", "year", "i"] (spD cMR) := by
  refine ok_body F sc23 (fun ds d ⟨a, b, c, e, _⟩ => by rw [e]; rfl) fun cdv A outer s H0 E ds d ex hr hC D hD hN => ?_
  obtain ⟨l, y, i, rfl, g, hi, rfl⟩ := hC
  have g1 := g.y2
  have g2 := g.y12
  have g3 := g.two
  refine sd_set 3 ro_p sc23.nd rfl (.inl rfl) ((pd_fdiv (pd_var (i := 1) rfl (.inl rfl) rfl) pd_int (wide_div (by decide) (b := 2) (by decide) (by decide) (by decide))).to (d1 := .int ((y / 2 : Nat) : Int)) (by rw [Int.natCast_ediv]; rfl)) ?_
  generalize hh : y / 2 = h
  by_cases hv : valid l.length y i = true
  · obtain ⟨v1, v2⟩ := valid_iff.mp hv
    rw [hh] at v1 v2
    refine sd_skip ro_p ((tw_or (x := false) (y := false) ((td_lt (pd_var (i := 2) rfl (.inl rfl) rfl) (pd_var (i := 3) rfl (.inl rfl) rfl)).to (decide_eq_false (by omega))) fun _ =>
      tw_or1 ((td_ge (pd_add (pd_var (i := 2) rfl (.inl rfl) rfl) (pd_var (i := 3) rfl (.inl rfl) rfl)) (pd_len (by rfl) m.len (pd_var (i := 0) rfl (.inl rfl) rfl))).to (decide_eq_false (by rw [List.length_map]; omega)))).td) ?_
    have ecut : cutD (l.map PyData.int) (some ((i : Int) - (h : Int))) (some ((i : Int) + (h : Int) + 1)) = ((l.drop (i - h)).take (2 * h + 1)).map PyData.int := by
      rw [show (i : Int) - (h : Int) = ((i - h : Nat) : Int) by omega, show (i : Int) + (h : Int) + 1 = ((i + h + 1 : Nat) : Int) by omega, cut_ints _ _ _ (by omega) (by omega), show i + h + 1 - (i - h) = 2 * h + 1 by omega]
    refine sd_set 4 ro_p sc23.nd rfl (.inl rfl) ((pd_slice (pd_var (i := 0) rfl (.inl rfl) rfl) (od_some (pd_sub (pd_var (i := 2) rfl (.inl rfl) rfl) (pd_var (i := 3) rfl (.inl rfl) rfl))) (od_some (pd_add (pd_add (pd_var (i := 2) rfl (.inl rfl) rfl) (pd_var (i := 3) rfl (.inl rfl) rfl)) pd_int))).to (congrArg PyData.list ecut)) ?_
    have hsum := sum_cut l (i - h) (2 * h + 1) (by omega)
    have hlen : ((l.drop (i - h)).take (2 * h + 1)).length = 2 * h + 1 := by rw [List.length_take, List.length_drop]; omega
    have hsm := sum_small (l := (l.drop (i - h)).take (2 * h + 1)) (b := 10 ^ 6) fun x hx => g.small x (List.mem_of_mem_drop (List.mem_of_mem_take hx))
    rw [hlen] at hsm
    have hsm2 : (2 * h + 1) * 10 ^ 6 ≤ 13 * 10 ^ 6 := Nat.mul_le_mul_right _ (by omega)
    have eM : meanO l y i = some (M y (sF l) i) := by unfold meanO; rw [if_pos hv]
    have e0 : (l.drop (i - h))[0]? = some (l.getD (i - h) 0) := by
      rw [List.getElem?_drop, Nat.add_zero, List.getD_eq_getElem?_getD, List.getElem?_eq_getElem (by omega)]
      rfl
    by_cases ho : y % 2 = 1
    · refine sd_if (b := true) ro_p ((td_eqI hr.units (pd_mod (pd_var (i := 1) rfl (.inl rfl) rfl) pd_int (by decide)) pd_int).to (decide_eq_true (by omega))) (fun _ => ?_) (fun z => by cases z)
      refine sd_ret ro_p (pd_call dL hr (by rfl) (ad_cons (pd_sum (by rfl) (by rfl) m.sum (pd_var (i := 4) rfl (.inl rfl) rfl)) (ad_cons (pd_var (i := 1) rfl (.inl rfl) rfl) ad_nil)) ⟨_, _, rfl, by omega, Nat.lt_of_le_of_lt (by omega : ((y : Nat) : Int).natAbs ≤ 12) (by decide +kernel), rfl⟩) fun v H r hd => hD v H r ?_
      rw [eM]
      have e1 : Rat.divInt ((l.drop (i - h)).take (2 * h + 1)).sum (y : Int) = M y (sF l) i := by
        unfold M
        rw [if_pos ho, hh, ← hsum, Rat.divInt_eq_div]
        rfl
      rw [e1] at hd
      exact hd
    · refine sd_skip ro_p ((td_eqI hr.units (pd_mod (pd_var (i := 1) rfl (.inl rfl) rfl) pd_int (by decide)) pd_int).to (decide_eq_false (by omega))) ?_
      have f0 : L2.atI (((l.drop (i - h)).take (2 * h + 1)).map PyData.int) 0 = some (.int (l.getD (i - h) 0)) := by
        refine L2.atI_nat (j := 0) ?_
        rw [List.getElem?_map, List.getElem?_take, if_pos (by omega), e0]
        rfl
      have f1 : L2.atI (((l.drop (i - h)).take (2 * h + 1)).map PyData.int) (-1) = some (.int (l.getD (i - h + 2 * h) 0)) := by
        refine atI_last' ?_ (by rw [List.length_map, hlen]; omega)
        rw [List.length_map, hlen, List.getElem?_map, List.getElem?_take, if_pos (by omega), List.getElem?_drop, List.getElem?_eq_getElem (by omega), List.getD_eq_getElem?_getD, List.getElem?_eq_getElem (by omega)]
        rfl
      refine sd_ret ro_p (pd_call dL hr (by rfl) (ad_cons (pd_sub (pd_sub (pd_mul pd_int (pd_sum (by rfl) (by rfl) m.sum (pd_var (i := 4) rfl (.inl rfl) rfl)) (wide_mul (a := 64) (b := 64) (by decide) (by omega) (by decide) (by decide) (by decide))) (pd_ixL (pd_var (i := 4) rfl (.inl rfl) rfl) pd_int f0)) (pd_ixL (pd_var (i := 4) rfl (.inl rfl) rfl) (pd_neg pd_int) f1))
        (ad_cons (pd_mul pd_int (pd_var (i := 1) rfl (.inl rfl) rfl) (wide_mul (a := 64) (b := 64) (by decide) (by omega) (by decide) (by decide) (by decide))) ad_nil)) ⟨_, _, rfl, by omega, Nat.lt_of_le_of_lt (by omega : (2 * ((y : Nat) : Int)).natAbs ≤ 24) (by decide +kernel), rfl⟩) fun v H r hd => hD v H r ?_
      rw [eM]
      have e1 : Rat.divInt (2 * ((l.drop (i - h)).take (2 * h + 1)).sum - l.getD (i - h) 0 - l.getD (i - h + 2 * h) 0) (2 * (y : Int)) = M y (sF l) i := by
        unfold M
        rw [if_neg ho, hh, ← hsum, Rat.divInt_eq_div, Rat.intCast_sub, Rat.intCast_sub, Rat.intCast_mul]
        rfl
      rw [e1] at hd
      exact hd
  · have eM : meanO l y i = none := by unfold meanO; rw [if_neg hv]
    have hv' : ¬ (h ≤ i ∧ i + h < l.length) := fun z => hv (valid_iff.mpr (by rw [hh]; exact z))
    refine sd_if (b := true) ro_p ((tw_or (x := decide ((i : Int) < (h : Int))) (y := decide (((l.map PyData.int).length : Int) ≤ (i : Int) + (h : Int))) (td_lt (pd_var (i := 2) rfl (.inl rfl) rfl) (pd_var (i := 3) rfl (.inl rfl) rfl)) fun _ =>
      tw_or1 (td_ge (pd_add (pd_var (i := 2) rfl (.inl rfl) rfl) (pd_var (i := 3) rfl (.inl rfl) rfl)) (pd_len (by rfl) m.len (pd_var (i := 0) rfl (.inl rfl) rfl)))).td.to ?_) (fun _ => ?_) (fun z => by cases z)
    · rw [Bool.or_eq_true, decide_eq_true_iff, decide_eq_true_iff, List.length_map]
      omega
    · refine sd_ret ro_p pd_none fun v H r hd => hD v H r ?_
      rw [eM]
      exact hd
theorem ok24 {f : Addr} {fd : FuncData} (F : Fun K "means" "means" (topS 24) f fd) (m : Mg mg) (dM : Dn P w K mg base "mean_round" 3 ["series", "year", "i"] (spD cMR)) :
    FnOk P w K mg base CX0 4 f fd ["series", "year"] (spD cMeans) := by
  refine ok_body F sc24 (fun ds d ⟨a, b, e, _⟩ => by rw [e]; rfl) fun cdv A outer s H0 E ds d ex hr hC D hD hN => ?_
  obtain ⟨l, y, rfl, g, rfl⟩ := hC
  have g1 := g.most
  refine sd_ret ro_p ((pd_lc rfl sc24.nd (lc_one (j := 2) (yd := fun i => dO (meanO l y i)) (blkOk_by (N := ["series", "year", "i"]) (sc := defScope (topS 24)) (by decide +kernel)) (iv_range1 (by rfl) m.range (pd_len (by rfl) m.len (pd_var (i := 0) rfl (.inr (.inl rfl)) rfl)) (by rw [List.length_map]; omega)) (by rw [List.length_map]; omega) (fun _ _ _ _ _ => pg_name sc24.nd rfl (.inl rfl)) fun i hi Dl s' H' C cl fp => ?_)).to ?_) hD
  · rw [List.length_map] at hi
    exact pd_call dM hr (by rfl) (ad_cons (pd_var (i := 0) rfl (.inr (.inl rfl)) rfl) (ad_cons (pd_var (i := 1) rfl (.inr (.inl rfl)) rfl) (ad_cons (pd_var (i := 2) rfl (.inl rfl) rfl) ad_nil))) ⟨l, y, i, rfl, g, by omega, rfl⟩
  · rw [List.length_map]
    rfl
end
end Cv

namespace Cv
open PySem PySem.Spec PyProof.Rows L2
open Evl (Ex)
theorem rsz_pos {a b c n : Nat} (hc : 0 < c) (hn : n = (b - a + c - 1) / c) : Builtin.Range.rangeSize (a : Int) (b : Int) (c : Int) = n := by
  unfold Builtin.Range.rangeSize
  rw [if_pos (by omega)]
  by_cases h : (a : Int) < (b : Int)
  · rw [if_pos h, hn, Int.natCast_ediv]
    have e : ((b - a + c - 1 : Nat) : Int) = ((b : Int) - a - 1) + 1 * (c : Int) := by omega
    rw [e, Int.add_mul_ediv_right _ _ (by omega)]
  · rw [if_neg h, hn, Nat.div_eq_of_lt (by omega)]
    rfl
theorem rgC_pos {a b c n : Nat} (hc : 0 < c) (hc2 : c ≤ 1000) (ha : a ≤ 1000) (hb : b ≤ 1000) (hn : n = (b - a + c - 1) / c) : RgC (a : Int) (b : Int) (c : Int) n := by
  refine ⟨by omega, by omega, ?_, rsz_pos hc hn⟩
  have hn2 : n ≤ 3000 := by rw [hn]; exact Nat.le_trans (Nat.div_le_self _ _) (by omega)
  unfold Builtin.Range.small
  rw [rsz_pos hc hn]
  simp only [Builtin.Range.rangeFitsLong, Bool.and_eq_true, Bool.or_eq_true, decide_eq_true_eq, beq_iff_eq, show (c : Int) > 0 by omega, if_true]
  omega
theorem isNone_dO (o : Option Rat) : isNoneD (dO o) = o.isNone := by cases o <;> rfl
theorem isNone_mean (l : List Int) (y i : Nat) : (!isNoneD (dO (meanO l y i))) = valid l.length y i := by
  rw [isNone_dO]
  unfold meanO
  cases h : valid l.length y i with
  | true => rw [if_pos rfl]; rfl
  | false => rw [if_neg Bool.false_ne_true]; rfl
theorem dF_one (n : Nat) (h : 0 < n) : PyData.tuple [.int 1, .int (n : Int)] = dF (1 / (n : Rat)) := by
  unfold dF
  rw [num_inv' h, den_inv' h]
theorem map_getD {α : Type} (L : List Nat) (h : Nat → α) : (List.range L.length).map (fun i => h (L.getD i 0)) = L.map h := by
  refine List.ext_getElem (by simp) fun i h1 h2 => ?_
  have hi : i < L.length := by simpa using h2
  rw [List.getElem_map, List.getElem_map, List.getElem_range, List.getD_eq_getElem?_getD, List.getElem?_eq_getElem hi]
  rfl
theorem nats_getD {L : List Nat} {i : Nat} (h : i < L.length) : (L.map fun (j : Nat) => PyData.int (j : Int)).getD i .none = .int ((L.getD i 0 : Nat) : Int) := by
  rw [List.getD_eq_getElem?_getD, List.getElem?_map, List.getElem?_eq_getElem h, List.getD_eq_getElem?_getD, List.getElem?_eq_getElem h]
  rfl
theorem getD_mem {L : List Nat} {i : Nat} (h : i < L.length) : L.getD i 0 ∈ L := by
  rw [List.getD_eq_getElem?_getD, List.getElem?_eq_getElem h]
  exact List.getElem_mem h
theorem tat_lt {N y k i : Nat} (h : i ∈ tat N y k) : i < N := by
  obtain ⟨t, _, _, hv⟩ := tat_mem h
  have := (valid_iff.mp hv).2
  omega
def cSL (ds : List PyData) (d : PyData) : Prop := ∃ (l : List Int) (y : Nat), ds = [dS l, .int (y : Int)] ∧ Good l y ∧ d = .list ((List.range y).map fun k => dF (seas l.length y (sF l) k))
theorem less_by {Γ Γ' : List Sl} (h : Γ.length = Γ'.length) (k : ∀ i, i < Γ'.length → Γ'[i]? = some .non ∨ Γ[i]? = Γ'[i]?) : Less Γ Γ' := ⟨h, fun i s e => by
  have hi := (List.getElem?_eq_some_iff.mp e).1
  rcases k i hi with q | q
  · rw [e] at q
    exact .inl (Option.some.inj q)
  · rw [e] at q
    exact .inr q⟩
theorem sc25 : FnScope ["series", "year", "found", "round_all", "k", "times_at", "apart", "middle", "i", "one"] ["series", "year"] (defScope (topS 25)) := ⟨rfl, rfl, rfl, by decide +kernel, rfl, by decide +kernel, by decide +kernel⟩
section
variable {P : Program} {w : World} {K : PySem.W.Frag} {mg : Str → Option Value} {base : Heap}
theorem ok25 {f : Addr} {fd : FuncData} (F0 : Fun K "season_list" "season_list" (topS 25) f fd) (m : Mg mg) (dMe : Dn P w K mg base "means" 4 ["series", "year"] (spD cMeans)) (dMi : Dn P w K mg base "minus" 3 ["one", "other"] (spD cMinus))
    (dT : Dn P w K mg base "times" 3 ["one", "other"] (spD cTimes)) (dSu : Dn P w K mg base "sum_of" 4 ["fractions"] (spD cSum)) : FnOk P w K mg base CX0 5 f fd ["series", "year"] (spD cSL) := by
  refine ok_body F0 sc25 (fun ds d ⟨a, b, e, _⟩ => by rw [e]; rfl) fun cdv A outer s H0 E ds d ex hr hC D hD hN => ?_
  obtain ⟨l, y, rfl, g, rfl⟩ := hC
  have g1 := g.y2
  have g2 := g.y12
  have g3 := g.two
  have g4 := g.most
  have S := g.ser
  refine sd_new 2 sc25.nd rfl (.inl rfl) fun fo => ?_
  refine sd_set 3 ro_lb sc25.nd rfl (.inr rfl) (pd_call dMe (hr.mono (by decide)) (by rfl) (ad_cons (pd_var (i := 0) rfl (.inr (.inl rfl)) rfl) (ad_cons (pd_var (i := 1) rfl (.inl rfl) rfl) ad_nil)) ⟨l, y, rfl, g, rfl⟩) ?_
  refine sd_for (fun _ => [.dat (dS l), .dat (.int (y : Int)), .val (.ref fo), .dat (.list ((List.range l.length).map fun i => dO (meanO l y i))), .non, .non, .non, .non, .non, .non]) _
    (fun i => LB ex H0 fo ((List.range i).map fun k => dF (F l.length y (sF l) k))) PassesOwn.never rfl ro_lb (fun _ => ro_lb) (iv_range1 (by rfl) m.range (pd_var (i := 1) rfl (.inl rfl) rfl) (by omega)) (gfr_name 4 sc25.nd rfl (.inl rfl)) (less_refl _) (fun _ h => h) (fun k hk Hb => ?_) ?_
  · have hk' : k < y := by omega
    have hpos := tat_pos g1 g3 hk'
    have hle := tat_le l.length y k (by omega)
    refine sd_setLc 5 (ro_lb.base Hb) rfl sc25.nd rfl rfl (sw_true rfl rfl rfl (by decide +kernel)) (lc_if (j := 8) (f := fun t => valid l.length y (k + t * y)) (yd := fun t => .int ((k + t * y : Nat) : Int)) (n := cnt l.length y k)
      (blkOk_by (N := ["series", "year", "found", "round_all", "k", "times_at", "apart", "middle", "i", "one"]) (sc := defScope (topS 25)) (by decide +kernel))
      (iv_range3 (by rfl) m.range (pd_var (i := 4) rfl (.inl rfl) rfl) (pd_len (by rfl) m.len (pd_var (i := 0) rfl (.inr (.inl rfl)) rfl)) (pd_var (i := 1) rfl (.inl rfl) rfl) (by rw [List.length_map]; exact rgC_pos (by omega) (by omega) (by omega) (by omega) rfl)) ?_ (fun _ _ _ _ _ => pg_name sc25.nd rfl (.inl rfl)) (fun t ht Dl s' H' C cl fp => ?_) (fun t ht hv Dl s' H' C cl fp => ?_)) ?_
    · unfold cnt
      exact Nat.le_trans (Nat.div_le_self _ _) (by omega)
    · have hlt : cnt l.length y k * y ≤ l.length - k + y - 1 := Nat.div_mul_le_self _ _
      have hlt2 : t * y + y ≤ cnt l.length y k * y := by rw [← Nat.succ_mul]; exact Nat.mul_le_mul_right y ht
      have hin : k + t * y < l.length := by omega
      have e : (k : Int) + (t : Nat) * (y : Int) = ((k + t * y : Nat) : Int) := by rw [Int.natCast_add, Int.natCast_mul]
      rw [e]
      exact (td_notN (pd_ixL (pd_var (i := 3) rfl (.inr (.inl rfl)) rfl) (pd_var (i := 8) rfl (.inl rfl) rfl) (range_at hin))).to (isNone_mean l y _)
    · have e : (k : Int) + (t : Nat) * (y : Int) = ((k + t * y : Nat) : Int) := by rw [Int.natCast_add, Int.natCast_mul]
      rw [e]
      exact pd_var (i := 8) rfl (.inl rfl) rfl
    have e1 : ((List.range (cnt l.length y k)).filter (fun t => valid l.length y (k + t * y))).map (fun t => PyData.int ((k + t * y : Nat) : Int)) = (tat l.length y k).map fun (i : Nat) => PyData.int (i : Int) := by
      unfold tat
      rw [List.map_map]
      rfl
    rw [e1]
    have e2 : (List.range (tat l.length y k).length).map (fun i => dF (sF l ((tat l.length y k).getD i 0) - M y (sF l) ((tat l.length y k).getD i 0))) = ((tat l.length y k).map fun i => sF l i - M y (sF l) i).map dF := by
      rw [map_getD _ (fun i => dF (sF l i - M y (sF l) i)), List.map_map]
      rfl
    refine sd_setLc 6 (ro_lb.base Hb) rfl sc25.nd rfl rfl (sw_true rfl rfl rfl (by decide +kernel)) (lc_one (j := 8) (yd := fun i => dF (sF l ((tat l.length y k).getD i 0) - M y (sF l) ((tat l.length y k).getD i 0)))
      (blkOk_by (N := ["series", "year", "found", "round_all", "k", "times_at", "apart", "middle", "i", "one"]) (sc := defScope (topS 25)) (by decide +kernel))
      (iv_list (pd_var (i := 5) rfl (.inl rfl) rfl)) (by rw [List.length_map]; omega) (fun _ _ _ _ _ => pg_name sc25.nd rfl (.inl rfl)) (fun i hi Dl s' H' C cl fp => ?_)) ?_
    · rw [List.length_map] at hi
      rw [nats_getD hi]
      have hm := getD_mem hi
      have hin := tat_lt hm
      obtain ⟨_, _, _, hv⟩ := tat_mem hm
      have eM : dO (meanO l y ((tat l.length y k).getD i 0)) = dF (M y (sF l) ((tat l.length y k).getD i 0)) := by unfold meanO; rw [if_pos hv]; rfl
      refine pd_call dMi (hr.mono (by decide)) (by rfl) (ad_cons ((pd_tup (ad_cons (pd_ixL (pd_var (i := 0) rfl (.inr (.inl rfl)) rfl) (pd_var (i := 8) rfl (.inl rfl) rfl) (list_at hin)) (ad_cons pd_int ad_nil))).to (show _ = dF (sF l ((tat l.length y k).getD i 0)) by rfl)) (ad_cons ((pd_ixL (pd_var (i := 3) rfl (.inr (.inl rfl)) rfl) (pd_var (i := 8) rfl (.inl rfl) rfl) (range_at hin)).to eM) ad_nil))
        ⟨_, _, rfl, S.sm (S.c_num _) (by omega), S.sm (S.c_M _) (by omega), rfl⟩
    rw [List.length_map, e2]
    refine sd_app (R' := fun H => Ex (era (fo :: ex) Hb) (era (fo :: ex) H) ∧ LB ex H0 fo ((List.range (k + 1)).map fun k => dF (F l.length y (sF l) k)) H) (i := 2) (d := dF (F l.length y (sF l) k)) (ro_lb.base Hb) (fun H q => ?_) rfl (.inl rfl) rfl ?_ rfl (fun H acc v q h1 h2 => ?_) ?_
      (fun te h => pe_bm PySem.F.plainAttrs_list PySem.F.slot_list_append PySem.F.type_list_append mt_append (pe_var (i := 2) rfl (.inl rfl)) (pa_cons h pa_nil))
    · obtain ⟨_, _, _, _, _, acc, a1, a2⟩ := q
      refine ⟨acc, a1, ?_⟩
      rw [a2.len, List.length_map, List.length_range]
      omega
    · refine pd_call dT (hr.mono (by decide)) (by rfl) (ad_cons (pd_call dSu (hr.mono (by decide)) (by rfl) (ad_cons (pd_var (i := 6) rfl (.inl rfl) rfl) ad_nil) ⟨_, rfl, S.sms (b := BB) (fun q hq => ?_) (by omega) ?_, rfl⟩) (ad_cons ((pd_tup (ad_cons pd_int (ad_cons (pd_len (by rfl) m.len (pd_var (i := 6) rfl (.inl rfl) rfl)) ad_nil))).to ?_) ad_nil))
        ⟨((tat l.length y k).map fun i => sF l i - M y (sF l) i).sum, 1 / ((tat l.length y k).length : Rat), rfl, ?_, sm_inv hpos (by omega), rfl⟩
      · obtain ⟨i, _, rfl⟩ := List.mem_map.mp hq
        exact S.c_ap i
      · rw [List.length_map]
        omega
      · rw [List.length_map, List.length_map]
        exact dF_one _ hpos
      · refine S.sm (b := (tat l.length y k).length * BB) ?_ (Nat.mul_le_mul_right _ (by omega))
        have h := Ce.sum (D := DD l.length y) (b := BB) (l := (tat l.length y k).map fun i => sF l i - M y (sF l) i) fun q hq => by
          obtain ⟨i, _, rfl⟩ := List.mem_map.mp hq
          exact S.c_ap i
        rw [List.length_map] at h
        exact h
    · obtain ⟨q1, q2, q3, q4, q5, acc', a1, a2⟩ := q
      rw [h1] at a1
      cases a1
      refine ⟨?_, q2.mut q3, q3, q4, fun a ha z => ?_, acc ++ [v], upd_same, ?_⟩
      · rw [era_upd List.mem_cons_self]
        exact q1
      · have hne : a ≠ fo := fun e => q4 (e ▸ ha)
        rw [upd_ne hne] at z
        exact q5 a ha z
      · rw [era_upd List.mem_cons_self, List.range_succ, List.map_append]
        exact a2.app (.cons h2 .nil)
    · exact sd_nil fun σ H E' q => ⟨E'.less (less_by rfl fun i hi => by
        match i, hi with
        | 0, _ => exact .inr rfl
        | 1, _ => exact .inr rfl
        | 2, _ => exact .inr rfl
        | 3, _ => exact .inr rfl
        | 4, _ => exact .inl rfl
        | 5, _ => exact .inl rfl
        | 6, _ => exact .inl rfl
        | 7, _ => exact .inl rfl
        | 8, _ => exact .inl rfl
        | 9, _ => exact .inl rfl), q⟩
  · refine sd_done 2 rfl ?_
    rw [show ((y : Int)).toNat = y from Int.toNat_natCast y]
    have ey : (List.range y).map (fun k => dF (F l.length y (sF l) k)) = ((List.range y).map (F l.length y (sF l))).map dF := by rw [List.map_map]; rfl
    have hsum : Ce (DD l.length y) (y * 2 ^ 800) ((List.range y).map (F l.length y (sF l))).sum := by
      have h := Ce.sum (D := DD l.length y) (b := 2 ^ 800) (l := (List.range y).map (F l.length y (sF l))) fun q hq => by
        obtain ⟨k, hk, rfl⟩ := List.mem_map.mp hq
        exact S.c_F (List.mem_range.mp hk)
      rw [List.length_map, List.length_range] at h
      exact h
    have h8 : 2 ^ 800 ≤ BB := by have := two801; have := two800; omega
    refine sd_set 7 ro_p sc25.nd rfl (.inr rfl) (d := dF (mid l.length y (sF l))) (pd_call dT (hr.mono (by decide)) (by rfl) (ad_cons (pd_call dSu (hr.mono (by decide)) (by rfl) (ad_cons ((pd_var (i := 2) rfl (.inl rfl) rfl).to (congrArg PyData.list ey)) ad_nil) ⟨_, rfl, S.sms (b := BB) (fun q hq => ?_) (by omega) ?_, rfl⟩) (ad_cons ((pd_tup (ad_cons pd_int (ad_cons (pd_var (i := 1) rfl (.inl rfl) rfl) ad_nil))).to (dF_one y (by omega))) ad_nil))
      ⟨((List.range y).map (F l.length y (sF l))).sum, 1 / (y : Rat), rfl, S.sm hsum (Nat.mul_le_mul (by omega) h8), sm_inv (by omega) (by omega), rfl⟩) ?_
    · obtain ⟨k, hk, rfl⟩ := List.mem_map.mp hq
      exact (S.c_F (List.mem_range.mp hk)).up h8
    · rw [List.length_map, List.length_range]
      omega
    · refine sd_ret ro_p ((pd_lc rfl sc25.nd (lc_one (j := 9) (yd := fun k => dF (seas l.length y (sF l) k)) (blkOk_by (N := ["series", "year", "found", "round_all", "k", "times_at", "apart", "middle", "i", "one"]) (sc := defScope (topS 25)) (by decide +kernel))
        (iv_list (pd_var (i := 2) rfl (.inl rfl) rfl)) (by rw [List.length_map, List.length_range]; omega) (fun _ _ _ _ _ => pg_name sc25.nd rfl (.inl rfl)) (fun i hi Dl s' H' C cl fp => ?_))).to ?_) hD
      · rw [List.length_map, List.length_range] at hi
        rw [range_getD hi]
        exact pd_call dMi (hr.mono (by decide)) (by rfl) (ad_cons (pd_var (i := 9) rfl (.inl rfl) rfl) (ad_cons (pd_var (i := 7) rfl (.inr (.inl rfl)) rfl) ad_nil)) ⟨_, _, rfl, S.sm (S.c_F hi) (by omega), S.sm S.c_mid (by omega), rfl⟩
      · rw [List.length_map, List.length_range]
end
end Cv

namespace Cv
open PySem PySem.Spec PyProof.Rows L2
open Evl (Ex)
section
variable {X : Cx} {ex : List Addr} {Γ : List Sl} {a b : Expr} {pos : Pos} {d : PyData} {k : Nat}
/-- both sides come to the same -/
theorem td_ne_same (hu : X.A.units + 64 < cLine) (ha : PD X ex Γ a d) (hb : PD X ex Γ b d) (s : shp k d) (l : k ≤ 64 := by decide) : TD X ex Γ (.Compare a [.NotEq] [b] pos) false := (td_ne hu ha hb (s.ok l) (s.ok l)).to (by rw [s.refl]; rfl)
theorem pd_eq_same (hu : X.A.units + 64 < cLine) (ha : PD X ex Γ a d) (hb : PD X ex Γ b d) (s : shp k d) (l : k ≤ 64 := by decide) : PD X ex Γ (.Compare a [.Eq] [b] pos) (.bool true) := (pd_eq hu ha hb (s.ok l) (s.ok l)).to (by rw [s.refl])
theorem td_eq_same (hu : X.A.units + 64 < cLine) (ha : PD X ex Γ a d) (hb : PD X ex Γ b d) (s : shp k d) (l : k ≤ 64 := by decide) : TD X ex Γ (.Compare a [.Eq] [b] pos) true := (td_eq hu ha hb (s.ok l) (s.ok l)).to (by rw [s.refl])
end
theorem modc (k y : Nat) : ((k : Int) % (y : Int)) = ((k % y : Nat) : Int) := (Int.natCast_emod k y).symm
theorem dF_num (l : List Int) (i : Nat) : PyData.tuple [.int (l.getD i 0), .int 1] = dF (sF l i) := rfl
theorem dF_int (i : Int) : PyData.tuple [.int i, .int 1] = dF (i : Rat) := rfl
theorem dF_zero : PyData.tuple [.int 0, .int 1] = dF 0 := rfl
def cAdjL (ds : List PyData) (d : PyData) : Prop := ∃ (l : List Int) (y : Nat), ds = [dS l, .int (y : Int)] ∧ Good l y ∧ d = .list ((List.range l.length).map fun i => dF (adj l.length y (sF l) i))
def seasD (l : List Int) (y : Nat) : PyData := .list ((List.range y).map fun k => dF (seas l.length y (sF l) k))
def cJudged (ds : List PyData) (d : PyData) : Prop := ∃ (l : List Int) (y : Nat), ds = [dS l, .int (y : Int), seasD l y] ∧ Good l y ∧ d = .none
def ysums (l : List Int) (y : Nat) : List Int := (List.range (l.length / y)).map fun t => ((l.drop (t * y)).take y).sum
def cYS (ds : List PyData) (d : PyData) : Prop := ∃ (l : List Int) (y : Nat), ds = [dS l, .int (y : Int)] ∧ Good l y ∧ d = dS (ysums l y)
def withP (l p : List Int) (y : Nat) : List Int := (List.range l.length).map fun i => l.getD i 0 + p.getD (i % y) 0
def cWP (ds : List PyData) (d : PyData) : Prop := ∃ (l p : List Int) (y : Nat), ds = [dS l, .int (y : Int), dS p] ∧ Good l y ∧ p.length = y ∧ (∀ i, i < l.length → (l.getD i 0 + p.getD (i % y) 0).natAbs ≤ 10 ^ 6) ∧ d = dS (withP l p y)
theorem sc26 : FnScope ["series", "year"] ["series", "year"] (defScope (topS 26)) := ⟨rfl, rfl, rfl, by decide +kernel, rfl, by decide +kernel, by decide +kernel⟩
theorem sc27 : FnScope ["series", "year"] ["series", "year"] (defScope (topS 27)) := ⟨rfl, rfl, rfl, by decide +kernel, rfl, by decide +kernel, by decide +kernel⟩
theorem sc28 : FnScope ["series", "year", "parts", "i", "number"] ["series", "year"] (defScope (topS 28)) := ⟨rfl, rfl, rfl, by decide +kernel, rfl, by decide +kernel, by decide +kernel⟩
theorem sc29 : FnScope ["series", "year"] ["series", "year"] (defScope (topS 29)) := ⟨rfl, rfl, rfl, by decide +kernel, rfl, by decide +kernel, by decide +kernel⟩
theorem sc31 : FnScope ["series", "year", "thing", "due", "k", "one"] ["series", "year", "thing"] (defScope (topS 31)) := ⟨rfl, rfl, rfl, by decide +kernel, rfl, by decide +kernel, by decide +kernel⟩
theorem sc32 : FnScope ["series", "year", "at"] ["series", "year"] (defScope (topS 32)) := ⟨rfl, rfl, rfl, by decide +kernel, rfl, by decide +kernel, by decide +kernel⟩
theorem sc33 : FnScope ["series", "year", "pattern", "found", "number", "i"] ["series", "year", "pattern"] (defScope (topS 33)) := ⟨rfl, rfl, rfl, by decide +kernel, rfl, by decide +kernel, by decide +kernel⟩
theorem seasD_map (l : List Int) (y : Nat) : seasD l y = .list (((List.range y).map (seas l.length y (sF l))).map dF) := by
  unfold seasD
  rw [List.map_map]
  rfl
theorem seasD_shp (l : List Int) (y : Nat) : shp 3 (seasD l y) := by
  rw [seasD_map]
  exact shp_Fs _
theorem exists_max : ∀ {ns : List Int}, ns ≠ [] → ∃ m, m ∈ ns ∧ ∀ y ∈ ns, y ≤ m
  | [], h => absurd rfl h
  | [a], _ => ⟨a, List.mem_cons_self, fun y hy => by
    rcases List.mem_cons.mp hy with e | e
    · rw [e]; exact Int.le_refl _
    · cases e⟩
  | a :: b :: r, _ => by
    obtain ⟨m, h1, h2⟩ := exists_max (ns := b :: r) (by simp)
    by_cases h : a ≤ m
    · exact ⟨m, List.mem_cons_of_mem _ h1, fun y hy => by
        rcases List.mem_cons.mp hy with e | e
        · rw [e]; exact h
        · exact h2 y e⟩
    · exact ⟨a, List.mem_cons_self, fun y hy => by
        rcases List.mem_cons.mp hy with e | e
        · rw [e]; exact Int.le_refl _
        · have := h2 y e
          omega⟩
section
variable {P : Program} {w : World} {K : PySem.W.Frag} {mg : Str → Option Value} {base : Heap}
theorem ok26 {f : Addr} {fd : FuncData} (F0 : Fun K "trend" "trend" (topS 26) f fd) (dMu : Dn P w K mg base "must_be_series" 3 ["series", "year"] (spD cMust)) (dMe : Dn P w K mg base "means" 4 ["series", "year"] (spD cMeans)) :
    FnOk P w K mg base CX0 5 f fd ["series", "year"] (spD cMeans) := by
  refine ok_body F0 sc26 (fun ds d ⟨a, b, e, _⟩ => by rw [e]; rfl) fun cdv A outer s H0 E ds d ex hr hC D hD hN => ?_
  obtain ⟨l, y, rfl, g, rfl⟩ := hC
  refine sd_expr ro_p (pd_call dMu (hr.mono (by decide)) (by rfl) (ad_cons (pd_var (i := 0) rfl (.inl rfl) rfl) (ad_cons (pd_var (i := 1) rfl (.inl rfl) rfl) ad_nil)) ⟨l, y, rfl, g, rfl⟩) ?_
  exact sd_ret ro_p (pd_call dMe (hr.mono (by decide)) (by rfl) (ad_cons (pd_var (i := 0) rfl (.inl rfl) rfl) (ad_cons (pd_var (i := 1) rfl (.inl rfl) rfl) ad_nil)) ⟨l, y, rfl, g, rfl⟩) hD
theorem ok27 {f : Addr} {fd : FuncData} (F0 : Fun K "seasons" "seasons" (topS 27) f fd) (dMu : Dn P w K mg base "must_be_series" 3 ["series", "year"] (spD cMust)) (dSL : Dn P w K mg base "season_list" 5 ["series", "year"] (spD cSL)) :
    FnOk P w K mg base CX0 6 f fd ["series", "year"] (spD cSL) := by
  refine ok_body F0 sc27 (fun ds d ⟨a, b, e, _⟩ => by rw [e]; rfl) fun cdv A outer s H0 E ds d ex hr hC D hD hN => ?_
  obtain ⟨l, y, rfl, g, rfl⟩ := hC
  refine sd_expr ro_p (pd_call dMu (hr.mono (by decide)) (by rfl) (ad_cons (pd_var (i := 0) rfl (.inl rfl) rfl) (ad_cons (pd_var (i := 1) rfl (.inl rfl) rfl) ad_nil)) ⟨l, y, rfl, g, rfl⟩) ?_
  exact sd_ret ro_p (pd_call dSL (hr.mono (by decide)) (by rfl) (ad_cons (pd_var (i := 0) rfl (.inl rfl) rfl) (ad_cons (pd_var (i := 1) rfl (.inl rfl) rfl) ad_nil)) ⟨l, y, rfl, g, rfl⟩) hD
theorem ok28 {f : Addr} {fd : FuncData} (F0 : Fun K "adjusted_list" "adjusted_list" (topS 28) f fd) (m : Mg mg) (dSL : Dn P w K mg base "season_list" 5 ["series", "year"] (spD cSL)) (dMi : Dn P w K mg base "minus" 3 ["one", "other"] (spD cMinus)) :
    FnOk P w K mg base CX0 6 f fd ["series", "year"] (spD cAdjL) := by
  refine ok_body F0 sc28 (fun ds d ⟨a, b, e, _⟩ => by rw [e]; rfl) fun cdv A outer s H0 E ds d ex hr hC D hD hN => ?_
  obtain ⟨l, y, rfl, g, rfl⟩ := hC
  have g1 := g.y2
  have g4 := g.most
  have S := g.ser
  refine sd_set 2 ro_p sc28.nd rfl (.inr rfl) (pd_call dSL (hr.mono (by decide)) (by rfl) (ad_cons (pd_var (i := 0) rfl (.inl rfl) rfl) (ad_cons (pd_var (i := 1) rfl (.inr (.inl rfl)) rfl) ad_nil)) ⟨l, y, rfl, g, rfl⟩) ?_
  refine sd_ret ro_p ((pd_lc rfl sc28.nd (lc_pair (i := 3) (j := 4) (d1 := fun k => .int (k : Nat)) (d2 := fun k => (l.map PyData.int).getD k .none) (yd := fun i => dF (adj l.length y (sF l) i)) (by decide) (blkOk_by (N := ["series", "year", "parts", "i", "number"]) (sc := defScope (topS 28)) (by decide +kernel))
    (iv_enum (by rfl) m.enum (pd_var (i := 0) rfl (.inl rfl) rfl)) (by rw [List.length_map]; omega) (fun _ _ _ _ _ => pg_tup rfl (pgs_cons (pg_name (i := 3) sc28.nd rfl (.inl rfl)) (pgs_cons (pg_name (i := 4) sc28.nd rfl (.inl rfl)) pgs_nil))) (fun i hi Dl s' H' C cl fp => ?_))).to ?_) hD
  · rw [List.length_map] at hi
    have hm : i % y < y := Nat.mod_lt _ (by omega)
    rw [ints_getD hi]
    exact pd_call dMi (hr.mono (by decide)) (by rfl) (ad_cons ((pd_tup (ad_cons (pd_var (i := 4) rfl (.inl rfl) rfl) (ad_cons pd_int ad_nil))).to (dF_num l i)) (ad_cons (pd_ixL (pd_var (i := 2) rfl (.inr (.inl rfl)) rfl) (pd_mod (pd_var (i := 3) rfl (.inl rfl) rfl) (pd_var (i := 1) rfl (.inr (.inl rfl)) rfl) (by omega)) (by rw [modc]; exact range_at hm)) ad_nil))
      ⟨_, _, rfl, S.sm (S.c_num _) (by omega), S.sm (S.c_seas hm) (by have := two801; omega), rfl⟩
  · rw [List.length_map]
theorem ok29 {f : Addr} {fd : FuncData} (F0 : Fun K "adjusted" "adjusted" (topS 29) f fd) (dMu : Dn P w K mg base "must_be_series" 3 ["series", "year"] (spD cMust)) (dA : Dn P w K mg base "adjusted_list" 6 ["series", "year"] (spD cAdjL)) :
    FnOk P w K mg base CX0 7 f fd ["series", "year"] (spD cAdjL) := by
  refine ok_body F0 sc29 (fun ds d ⟨a, b, e, _⟩ => by rw [e]; rfl) fun cdv A outer s H0 E ds d ex hr hC D hD hN => ?_
  obtain ⟨l, y, rfl, g, rfl⟩ := hC
  refine sd_expr ro_p (pd_call dMu (hr.mono (by decide)) (by rfl) (ad_cons (pd_var (i := 0) rfl (.inl rfl) rfl) (ad_cons (pd_var (i := 1) rfl (.inl rfl) rfl) ad_nil)) ⟨l, y, rfl, g, rfl⟩) ?_
  exact sd_ret ro_p (pd_call dA (hr.mono (by decide)) (by rfl) (ad_cons (pd_var (i := 0) rfl (.inl rfl) rfl) (ad_cons (pd_var (i := 1) rfl (.inl rfl) rfl) ad_nil)) ⟨l, y, rfl, g, rfl⟩) hD
theorem ok31 {f : Addr} {fd : FuncData} (F0 : Fun K "seasons_judged" "seasons_judged" (topS 31) f fd) (m : Mg mg) (dMu : Dn P w K mg base "must_be_series" 3 ["series", "year"] (spD cMust)) (dFr : Dn P w K mg base "is_fraction" 2 ["thing"] (spD cFrac))
    (dSu : Dn P w K mg base "sum_of" 4 ["fractions"] (spD cSum)) (dSL : Dn P w K mg base "season_list" 5 ["series", "year"] (spD cSL)) (dMi : Dn P w K mg base "minus" 3 ["one", "other"] (spD cMinus)) :
    FnOk P w K mg base CX0 6 f fd ["series", "year", "thing"] (spD cJudged) := by
  refine ok_body F0 sc31 (fun ds d ⟨a, b, e, _⟩ => by rw [e]; rfl) fun cdv A outer s H0 E ds d ex hr hC D hD hN => ?_
  obtain ⟨l, y, rfl, g, rfl⟩ := hC
  have g1 := g.y2
  have g2 := g.y12
  have S := g.ser
  refine sd_expr ro_p (pd_call dMu (hr.mono (by decide)) (by rfl) (ad_cons (pd_var (i := 0) rfl (.inl rfl) rfl) (ad_cons (pd_var (i := 1) rfl (.inl rfl) rfl) ad_nil)) ⟨l, y, rfl, g, rfl⟩) ?_
  refine sd_skip ro_p ((tw_or (x := false) (y := false) (td_not (x := true) (td_val (pd_isi (by rfl) m.isi (by rfl) m.list boot_list (pd_var (i := 2) rfl (.inl rfl) rfl) (kit_ll _)))) fun _ =>
    tw_or (x := false) (y := false) ((td_neI hr.units (pd_len (by rfl) m.len (pd_var (i := 2) rfl (.inl rfl) rfl)) (pd_var (i := 1) rfl (.inl rfl) rfl)).to (by rw [List.length_map, List.length_range, decide_eq_true rfl]; rfl)) fun _ =>
    tw_or1 (td_not (x := true) (td_val ((pd_all (bs := List.replicate y true) (by rfl) (by rfl) m.all ((pd_lc rfl sc31.nd (lc_one (j := 5) (yd := fun _ => .bool true) (blkOk_by (N := ["series", "year", "thing", "due", "k", "one"]) (sc := defScope (topS 31)) (by decide +kernel))
      (iv_list (pd_var (i := 2) rfl (.inl rfl) rfl)) (by rw [List.length_map, List.length_range]; omega) (fun _ _ _ _ _ => pg_name sc31.nd rfl (.inl rfl)) fun i hi Dl s' H' C cl fp => ?_)).to ?_)).to ?_)))).td) ?_
  · rw [List.length_map, List.length_range] at hi
    rw [range_getD hi]
    exact pd_call dFr (hr.mono (by decide)) (by rfl) (ad_cons (pd_var (i := 5) rfl (.inl rfl) rfl) ad_nil) ⟨_, rfl, rfl⟩
  · rw [List.length_map, List.length_range, bools_all]
  · rw [all_rep]
  refine sd_skip ro_p (td_ne_same hr.units (pd_call dSu (hr.mono (by decide)) (by rfl) (ad_cons ((pd_var (i := 2) rfl (.inl rfl) rfl).to (seasD_map l y)) ad_nil) ⟨_, rfl, S.sms (b := BB) (fun q hq => ?_) (by omega) ?_, rfl⟩) ((pd_tup (ad_cons pd_int (ad_cons pd_int ad_nil))).to ?_) (shp_F _)) ?_
  · obtain ⟨k, hk, rfl⟩ := List.mem_map.mp hq
    exact (S.c_seas (List.mem_range.mp hk)).up two801
  · rw [List.length_map, List.length_range]
    omega
  · have h := seas_sum (N := l.length) (y := y) (by omega) (sF l)
    unfold qsum at h
    rw [h]
    rfl
  refine sd_set 3 ro_p sc31.nd rfl (.inl rfl) (pd_call dSL (hr.mono (by decide)) (by rfl) (ad_cons (pd_var (i := 0) rfl (.inl rfl) rfl) (ad_cons (pd_var (i := 1) rfl (.inl rfl) rfl) ad_nil)) ⟨l, y, rfl, g, rfl⟩) ?_
  refine sd_for (fun _ => [.dat (dS l), .dat (.int (y : Int)), .dat (seasD l y), .dat (seasD l y), .non, .non]) _ (fun _ => RP ex H0) PassesOwn.never rfl ro_p (fun _ => ro_p) (iv_range2 (by rfl) m.range pd_int (pd_var (i := 1) rfl (.inl rfl) rfl) (by omega) (by omega)) (gfr_name 4 sc31.nd rfl (.inl rfl)) (less_refl _) (fun _ h => h) (fun k hk Hb => ?_) ?_
  · have hk' : k + 1 < y := by omega
    have e1 : (1 : Int) + (k : Nat) = ((k + 1 : Nat) : Int) := by omega
    have sm1 := S.sm (S.c_seas hk') (by have := two801; omega)
    have sm0 := S.sm (S.c_seas (show 0 < y by omega)) (by have := two801; omega)
    have at1 : L2.atI ((List.range y).map fun k => dF (seas l.length y (sF l) k)) ((1 : Int) + (k : Nat)) = some (dF (seas l.length y (sF l) (k + 1))) := by rw [e1]; exact range_at hk'
    have at0 : L2.atI ((List.range y).map fun k => dF (seas l.length y (sF l) k)) 0 = some (dF (seas l.length y (sF l) 0)) := range_at (i := 0) (show 0 < y by omega)
    refine sd_skip (ro_p.base Hb) (td_ne_same hr.units (pd_call dMi (hr.mono (by decide)) (by rfl) (ad_cons (pd_ixL (pd_var (i := 2) rfl (.inl rfl) rfl) (pd_var (i := 4) rfl (.inl rfl) rfl) at1) (ad_cons (pd_ixL (pd_var (i := 2) rfl (.inl rfl) rfl) pd_int at0) ad_nil)) ⟨_, _, rfl, sm1, sm0, rfl⟩)
      (pd_call dMi (hr.mono (by decide)) (by rfl) (ad_cons (pd_ixL (pd_var (i := 3) rfl (.inl rfl) rfl) (pd_var (i := 4) rfl (.inl rfl) rfl) at1) (ad_cons (pd_ixL (pd_var (i := 3) rfl (.inl rfl) rfl) pd_int at0) ad_nil)) ⟨_, _, rfl, sm1, sm0, rfl⟩) (shp_F _)) ?_
    exact sd_nil fun σ H E' q => ⟨E'.less (less_by rfl fun i hi => by
        match i, hi with
        | 0, _ => exact .inr rfl
        | 1, _ => exact .inr rfl
        | 2, _ => exact .inr rfl
        | 3, _ => exact .inr rfl
        | 4, _ => exact .inl rfl
        | 5, _ => exact .inl rfl), q⟩
  · exact sd_ret ro_p pd_none hD
theorem ok32 {f : Addr} {fd : FuncData} (F0 : Fun K "year_sums" "year_sums" (topS 32) f fd) (m : Mg mg) (dMu : Dn P w K mg base "must_be_series" 3 ["series", "year"] (spD cMust)) :
    FnOk P w K mg base CX0 4 f fd ["series", "year"] (spD cYS) := by
  refine ok_body F0 sc32 (fun ds d ⟨a, b, e, _⟩ => by rw [e]; rfl) fun cdv A outer s H0 E ds d ex hr hC D hD hN => ?_
  obtain ⟨l, y, rfl, g, rfl⟩ := hC
  have g1 := g.y2
  have g2 := g.y12
  have g3 := g.two
  have g4 := g.most
  refine sd_expr ro_p (pd_call dMu (hr.mono (by decide)) (by rfl) (ad_cons (pd_var (i := 0) rfl (.inr (.inl rfl)) rfl) (ad_cons (pd_var (i := 1) rfl (.inr (.inl rfl)) rfl) ad_nil)) ⟨l, y, rfl, g, rfl⟩) ?_
  refine sd_ret ro_p ((pd_lc rfl sc32.nd (lc_one (j := 2) (n := l.length / y) (yd := fun t => .int (((l.drop (t * y)).take y).sum)) (blkOk_by (N := ["series", "year", "at"]) (sc := defScope (topS 32)) (by decide +kernel))
    (iv_range3 (lo := 0) (by rfl) m.range pd_int (pd_add (pd_sub (pd_len (by rfl) m.len (pd_var (i := 0) rfl (.inr (.inl rfl)) rfl)) (pd_var (i := 1) rfl (.inr (.inl rfl)) rfl)) pd_int) (pd_var (i := 1) rfl (.inr (.inl rfl)) rfl) ?_) (Nat.le_trans (Nat.div_le_self _ _) (by omega)) (fun _ _ _ _ _ => pg_name sc32.nd rfl (.inl rfl)) fun t ht Dl s' H' C cl fp => ?_)).to ?_) hD
  · rw [List.length_map, show (l.length : Int) - (y : Int) + 1 = ((l.length - y + 1 : Nat) : Int) by omega]
    exact rgC_pos (a := 0) (by omega) (by omega) (by omega) (by omega) (by rw [show l.length - y + 1 - 0 + y - 1 = l.length by omega])
  · have h1 : (t + 1) * y ≤ l.length := Nat.le_trans (Nat.mul_le_mul_right y ht) (Nat.div_mul_le_self _ _)
    rw [Nat.succ_mul] at h1
    have e : (0 : Int) + (t : Nat) * (y : Int) = ((t * y : Nat) : Int) := by rw [Int.natCast_mul]; omega
    rw [e]
    refine pd_sum rfl (by rfl) m.sum ((pd_slice (pd_var (i := 0) rfl (.inr (.inl rfl)) rfl) (od_some (pd_var (i := 2) rfl (.inl rfl) rfl)) (od_some (pd_add (pd_var (i := 2) rfl (.inl rfl) rfl) (pd_var (i := 1) rfl (.inr (.inl rfl)) rfl)))).to (congrArg PyData.list ?_))
    rw [show ((t * y : Nat) : Int) + (y : Int) = ((t * y + y : Nat) : Int) by omega, cut_ints _ _ _ h1 (by omega), Nat.add_sub_cancel_left]
  · show _ = PyData.list ((ysums l y).map PyData.int)
    unfold ysums
    rw [List.map_map]
    rfl
theorem ok33 {f : Addr} {fd : FuncData} (F0 : Fun K "with_pattern" "with_pattern" (topS 33) f fd) (m : Mg mg) (dMu : Dn P w K mg base "must_be_series" 3 ["series", "year"] (spD cMust)) (dW : Dn P w K mg base "is_whole" 1 ["thing"] (spD cWhole)) :
    FnOk P w K mg base CX0 4 f fd ["series", "year", "pattern"] (spD cWP) := by
  refine ok_body F0 sc33 (fun ds d ⟨a, b, c, e, _⟩ => by rw [e]; rfl) fun cdv A outer s H0 E ds d ex hr hC D hD hN => ?_
  obtain ⟨l, p, y, rfl, g, hp, hb, rfl⟩ := hC
  have g1 := g.y2
  have g2 := g.y12
  have g3 := g.two
  have g4 := g.most
  obtain ⟨tn, en⟩ := m.mn
  refine sd_expr ro_p (pd_call dMu (hr.mono (by decide)) (by rfl) (ad_cons (pd_var (i := 0) rfl (.inl rfl) rfl) (ad_cons (pd_var (i := 1) rfl (.inr (.inl rfl)) rfl) ad_nil)) ⟨l, y, rfl, g, rfl⟩) ?_
  refine sd_skip ro_p ((tw_or (x := false) (y := false) (td_not (x := true) (td_val (pd_isi (by rfl) m.isi (by rfl) m.list boot_list (pd_var (i := 2) rfl (.inr (.inl rfl)) rfl) (kit_ll _)))) fun _ =>
    tw_or (x := false) (y := false) ((td_neI hr.units (pd_len (by rfl) m.len (pd_var (i := 2) rfl (.inr (.inl rfl)) rfl)) (pd_var (i := 1) rfl (.inr (.inl rfl)) rfl)).to (by rw [List.length_map, hp, decide_eq_true rfl]; rfl)) fun _ =>
    tw_or1 (td_not (x := true) (td_val ((pd_all (bs := List.replicate p.length true) (by rfl) (by rfl) m.all ((pd_lc rfl sc33.nd (lc_one (j := 4) (yd := fun _ => .bool true) (blkOk_by (N := ["series", "year", "pattern", "found", "number", "i"]) (sc := defScope (topS 33)) (by decide +kernel))
      (iv_list (pd_var (i := 2) rfl (.inr (.inl rfl)) rfl)) (by rw [List.length_map]; omega) (fun _ _ _ _ _ => pg_name sc33.nd rfl (.inl rfl)) fun i hi Dl s' H' C cl fp => ?_)).to ?_)).to ?_)))).td) ?_
  · rw [List.length_map] at hi
    rw [ints_getD hi]
    exact pd_call dW (hr.mono (by decide)) (by rfl) (ad_cons (pd_var (i := 4) rfl (.inl rfl) rfl) ad_nil) ⟨_, rfl, rfl⟩
  · rw [List.length_map, bools_all]
  · rw [all_rep]
  have ew : (List.range l.length).map (fun i => PyData.int (l.getD i 0 + p.getD (i % y) 0)) = (withP l p y).map PyData.int := by
    unfold withP
    rw [List.map_map]
    rfl
  have hwl : (withP l p y).length = l.length := by unfold withP; rw [List.length_map, List.length_range]
  have hwb : ∀ x ∈ withP l p y, x.natAbs ≤ 10 ^ 6 := fun x hx => by
    obtain ⟨i, hi, rfl⟩ := List.mem_map.mp hx
    exact hb i (List.mem_range.mp hi)
  refine sd_setLc 3 ro_p rfl sc33.nd rfl rfl (sw_true rfl rfl rfl (by decide +kernel)) (lc_pair (i := 5) (j := 4) (d1 := fun k => .int (k : Nat)) (d2 := fun k => (l.map PyData.int).getD k .none) (yd := fun i => .int (l.getD i 0 + p.getD (i % y) 0)) (by decide) (blkOk_by (N := ["series", "year", "pattern", "found", "number", "i"]) (sc := defScope (topS 33)) (by decide +kernel))
    (iv_enum (by rfl) m.enum (pd_var (i := 0) rfl (.inl rfl) rfl)) (by rw [List.length_map]; omega) (fun _ _ _ _ _ => pg_tup rfl (pgs_cons (pg_name (i := 5) sc33.nd rfl (.inl rfl)) (pgs_cons (pg_name (i := 4) sc33.nd rfl (.inl rfl)) pgs_nil))) (fun i hi Dl s' H' C cl fp => ?_)) ?_
  · rw [List.length_map] at hi
    have hm : i % y < y := Nat.mod_lt _ (by omega)
    rw [ints_getD hi]
    exact pd_add (pd_var (i := 4) rfl (.inl rfl) rfl) (pd_ixL (pd_var (i := 2) rfl (.inr (.inl rfl)) rfl) (pd_mod (pd_var (i := 5) rfl (.inl rfl) rfl) (pd_var (i := 1) rfl (.inr (.inl rfl)) rfl) (by omega)) (by rw [modc]; exact list_at (by omega)))
  rw [List.length_map, ew]
  have hne : (withP l p y).map (fun x => ((x.natAbs : Nat) : Int)) ≠ [] := by
    intro z
    have := congrArg List.length z
    rw [List.length_map, hwl, List.length_nil] at this
    omega
  obtain ⟨mx, m1, m2⟩ := exists_max hne
  have m3 : mx ≤ 1000000 := by
    obtain ⟨x, hx, rfl⟩ := List.mem_map.mp m1
    have := hwb x hx
    omega
  refine sd_skip ro_p ((td_gt (pd_maxL (by rfl) (by rfl) m.max ((pd_lc rfl sc33.nd (lc_one (j := 4) (yd := fun i => .int (((withP l p y).getD i 0).natAbs : Int)) (blkOk_by (N := ["series", "year", "pattern", "found", "number", "i"]) (sc := defScope (topS 33)) (by decide +kernel))
      (iv_list (pd_var (i := 3) rfl (.inl rfl) rfl)) (by rw [List.length_map]; omega) (fun _ _ _ _ _ => pg_name sc33.nd rfl (.inl rfl)) fun i hi Dl s' H' C cl fp => ?_)).to ?_) m1 m2) (pd_glob (by rfl) en)).to (decide_eq_false (by omega))) ?_
  · rw [List.length_map] at hi
    rw [ints_getD hi]
    exact pd_abs (by rfl) m.abs (pd_var (i := 4) rfl (.inl rfl) rfl)
  · rw [List.length_map, List.map_map]
    congr 1
    refine List.ext_getElem (by simp) fun i h1 h2 => ?_
    have hi : i < (withP l p y).length := by simpa using h2
    rw [List.getElem_map, List.getElem_map, List.getElem_range, List.getD_eq_getElem?_getD, List.getElem?_eq_getElem hi]
    rfl
  · exact sd_ret ro_p (pd_var (i := 3) rfl (.inl rfl) rfl) hD
end
end Cv

namespace Cz
open PySem PySem.W PySem.Calls PyProof.Rows
/-- a strict zip: no tuple given out yet; one that is still there -/
abbrev Zs (h : Heap) (z TI TO : Addr) (f0 : Value) : Prop :=
  h.get? z = some { cls := .type "zip", dict := none, data := .fields #[f0, .bool false, .bool true, .ref TI, .ref TO], slots := #[] }
abbrev Zh (h : Heap) (z TI TO T : Addr) (f : Bool) : Prop :=
  h.get? z = some { cls := .type "zip", dict := none, data := .fields #[rawInt T, .bool f, .bool true, .ref TI, .ref TO], slots := #[] }
section
variable {prog : Program} {w : World} {A : Around} {E : Value → Shared → Prop} {s : Shared}
theorem nextOrEnd_item {it l : Addr} {i : Nat} {items} {x : Value} {Q : Option Value → Shared → Prop} (hit : s.heap.IsListIter it l i)
    (hl : s.heap.IsList l items) (hx : items[i]? = some x)
    (hQ : ∀ h', h'.IsListIter it l (i + 1) → Heap.SameBut it s.heap h' → Q (some x) { s with heap := h' }) :
    wpAny (model prog w) A (Builtin.SmallTypes.nextOrEnd (.ref it)) Q E s := by
  unfold Builtin.SmallTypes.nextOrEnd
  exact wpAny_bind (wpAny_attempt (wpAny_nextOf_list_item hit hl hx fun h' a b => wpAny_pure (hQ h' a b)))
theorem nextOrEnd_end {it l : Addr} {i : Nat} {items} {Q : Option Value → Shared → Prop} (hh : A.handled = none)
    (hit : s.heap.IsListIter it l i) (hl : s.heap.IsList l items) (hx : items[i]? = none)
    (hQ : ∀ h', Heap.ExtBut it s.heap h' → Q none { s with heap := h' }) :
    wpAny (model prog w) A (Builtin.SmallTypes.nextOrEnd (.ref it)) Q E s := by
  unfold Builtin.SmallTypes.nextOrEnd
  refine wpAny_bind (wpAny_attempt (wpAny_nextOf_list_end hh hit hl hx fun h' e he ho => ?_))
  obtain ⟨o, ho, hc⟩ := ho
  refine wpAny_bind (wpAny_isInstance (T := "StopIteration") (b := true) ⟨o, ho, hc⟩ isSubtype_stop ?_)
  exact wpAny_pure (hQ h' he)
theorem stop_iter {α : Type} {Q : α → Shared → Prop} (hh : A.handled = none) (hE : ∀ h' e, (∀ b o, s.heap.get? b = some o → h'.get? b = some o) → (∃ o, h'.get? e = some o ∧ o.cls = .type "StopIteration") → E (.ref e) { s with heap := h' }) :
    wpAny (model prog w) A (Builtin.SmallTypes.stopIteration (α := α)) Q E s := by
  unfold Builtin.SmallTypes.stopIteration
  show wpAny _ _ (newExc (.type "StopIteration") [] >>= _) _ _ _
  refine wpAny_bind ?_
  simp only [newExc, newTuple]
  refine wpAny_bind (wpAny_newObj_type ?_ (by size_fits))
  refine wpAny_bind (m := firstArgMember _ _) (wpAny_of_eq (a := Value.none) (by first | rfl | (simp only [firstArgMember]; rfl)) ?_)
  refine wpAny_newObj_type ?_ (by size_fits)
  simp only [raiseNew]
  refine wpAny_bind (wpAny_handled ?_)
  rw [show A.handled = none from hh]
  refine wpAny_bind (wpAny_pure (wpAny_throw ?_))
  exact hE _ _ (fun b o e => Heap.get?_push_of_some _ (Heap.get?_push_of_some _ e)) ⟨_, Heap.get?_push_size _ rfl, rfl⟩

theorem zs_item {z TI TO i1 i2 l1 l2 : Addr} {k1 k2 : Nat} {xs ys : Array Value} {x y a b : Value} {Q : Value → Shared → Prop} (D : ZipApart z TI TO i1 i2 l1 l2)
    (hz : Zs s.heap z TI TO .none) (hTI : IsPair s.heap TI (.ref i1) (.ref i2)) (hTO : IsPair s.heap TO a b)
    (h1 : s.heap.IsListIter i1 l1 k1) (h2 : s.heap.IsListIter i2 l2 k2) (hl1 : s.heap.IsList l1 xs) (hl2 : s.heap.IsList l2 ys) (hx : xs[k1]? = some x) (hy : ys[k2]? = some y)
    (hQ : ∀ h', Zs h' z TI TO (rawInt s.heap.objs.size) → IsPair h' TO x y → h'.IsListIter i1 l1 (k1 + 1) → h'.IsListIter i2 l2 (k2 + 1) → IsPair h' s.heap.objs.size x y → h'.objs.size = s.heap.objs.size + 1 →
      (∀ c o, c ≠ z → c ≠ TO → c ≠ i1 → c ≠ i2 → s.heap.get? c = some o → h'.get? c = some o) → Q (.ref s.heap.objs.size) { s with heap := h' }) :
    wpAny (model prog w) A (Builtin.«zip.__next__» ⟨[.ref z], []⟩) (fun fin s' => ∃ v, fin = .done (.ret v) ∧ Q v s') E s := by
  show wpAny _ _ (field (.ref z) 2 >>= _) _ _ _
  refine wpAny_bind (wpAny_field hz rfl (x := .bool true) rfl ?_)
  show wpAny _ _ (field (.ref z) 3 >>= _) _ _ _
  refine wpAny_bind (wpAny_field hz rfl (x := .ref TI) rfl ?_)
  refine wpAny_bind (wpAny_seqItems hTI rfl ?_)
  show wpAny _ _ (Builtin.SmallTypes.ownedTupleIsFree (.ref z) >>= _) _ _ _
  refine wpAny_bind ?_
  unfold Builtin.SmallTypes.ownedTupleIsFree
  refine wpAny_bind (wpAny_field hz rfl (x := .none) rfl (wpAny_pure ?_))
  simp only [if_true]
  refine wpAny_bind (wpAny_rule ?_)
  refine wpAny_bind (wpAny_field hz rfl (x := .ref TO) rfl ?_)
  refine wpAny_bind (wpAny_setField_rec hz (by simp) fun h₁ hz₁ hs₁ => ?_)
  replace hz₁ : Zs h₁ z TI TO .ellipsis := hz₁
  refine wpAny_bind ?_
  simp only [List.zipIdx_cons, List.zipIdx_nil, List.forIn_cons, List.forIn_nil]
  refine wpAny_bind (wpAny_bind (wpAny_onRaise ?_))
  show wpAny _ _ (Builtin.SmallTypes.nextOrEnd (.ref i1)) _ _ _
  refine nextOrEnd_item (h1.extBut hs₁.extBut D.i1z) (hl1.extBut hs₁.extBut D.l1z) hx fun h₂ h1₂ hs₂ => ?_
  have hTO₂ : IsPair h₂ TO a b := hs₂.extBut _ _ D.TOi1 (hs₁.extBut _ _ D.TOz hTO)
  refine wpAny_bind (wpAny_seqItems hTO₂ rfl ?_)
  refine wpAny_bind (wpAny_updateSeq_pair hTO₂ fun h₃ hTO₃ hs₃ => ?_)
  replace hTO₃ : IsPair h₃ TO x b := hTO₃
  refine wpAny_bind (wpAny_letGo (wpAny_pure ?_))
  refine wpAny_bind (wpAny_bind (wpAny_onRaise ?_))
  show wpAny _ _ (Builtin.SmallTypes.nextOrEnd (.ref i2)) _ _ _
  refine nextOrEnd_item (((h2.extBut hs₁.extBut D.i2z).extBut hs₂.extBut D.i12.symm).extBut hs₃.extBut D.TOi2.symm)
    (((hl2.extBut hs₁.extBut D.l2z).extBut hs₂.extBut D.l2i1).extBut hs₃.extBut D.l2TO) hy fun h₄ h2₄ hs₄ => ?_
  have hTO₄ : IsPair h₄ TO x b := hs₄.extBut _ _ D.TOi2 hTO₃
  refine wpAny_bind (wpAny_seqItems hTO₄ rfl ?_)
  refine wpAny_bind (wpAny_updateSeq_pair hTO₄ fun h₅ hTO₅ hs₅ => ?_)
  replace hTO₅ : IsPair h₅ TO x y := hTO₅
  refine wpAny_bind (wpAny_letGo (wpAny_pure (wpAny_pure ?_)))
  refine wpAny_bind (wpAny_seqItems hTO₅ rfl ?_)
  refine wpAny_bind (wpAny_newTuple ?_)
  have hsz : h₅.objs.size = s.heap.objs.size := by rw [hs₅.1, hs₄.1, hs₃.1, hs₂.1, hs₁.1]
  have hz₅ : Zs h₅ z TI TO .ellipsis := hs₅.extBut _ _ D.TOz.symm (hs₄.extBut _ _ D.i2z.symm (hs₃.extBut _ _ D.TOz.symm (hs₂.extBut _ _ D.i1z.symm hz₁)))
  have hk₅ : ∀ c o, c ≠ z → c ≠ TO → c ≠ i1 → c ≠ i2 → s.heap.get? c = some o → h₅.get? c = some o := fun c o c1 c2 c3 c4 e =>
    hs₅.extBut _ _ c2 (hs₄.extBut _ _ c4 (hs₃.extBut _ _ c2 (hs₂.extBut _ _ c3 (hs₁.extBut _ _ c1 e))))
  have h1₅ : h₅.IsListIter i1 l1 (k1 + 1) := ((h1₂.extBut hs₃.extBut D.TOi1.symm).extBut hs₄.extBut D.i12).extBut hs₅.extBut D.TOi1.symm
  have h2₅ : h₅.IsListIter i2 l2 (k2 + 1) := h2₄.extBut hs₅.extBut D.TOi2.symm
  have hzlt : z < h₅.objs.size := Heap.lt_size hz₅
  show wpAny _ _ (Builtin.SmallTypes.ownedTupleHandOut (.ref z) (.ref h₅.objs.size) >>= _) _ _ _
  refine wpAny_bind ?_
  unfold Builtin.SmallTypes.ownedTupleHandOut
  have hz₆ : Zs (h₅.push { cls := .type "tuple", data := .seq #[x, y] }) z TI TO .ellipsis := Heap.get?_push_of_some _ hz₅
  refine wpAny_bind (wpAny_setField_rec hz₆ (by simp) fun h₇ hz₇ hs₇ => ?_)
  replace hz₇ : Zs h₇ z TI TO (rawInt h₅.objs.size) := hz₇
  refine wpAny_setField_rec hz₇ (by simp) fun h₈ hz₈ hs₈ => ?_
  replace hz₈ : Zs h₈ z TI TO (rawInt h₅.objs.size) := hz₈
  have up : ∀ c o, c ≠ z → h₅.get? c = some o → h₈.get? c = some o := fun c o c1 e => hs₈.extBut _ _ c1 (hs₇.extBut _ _ c1 (Heap.get?_push_of_some _ e))
  have hT₈ : IsPair h₈ h₅.objs.size x y := hs₈.extBut _ _ (Nat.ne_of_gt hzlt) (hs₇.extBut _ _ (Nat.ne_of_gt hzlt) (Heap.get?_push_size _ rfl))
  have hz8 : h₈.objs.size = h₅.objs.size + 1 := by rw [hs₈.1, hs₇.1, Heap.size_push]
  rw [hsz] at hz₈ hT₈ hz8
  refine wpAny_pure ⟨_, rfl, ?_⟩
  show Q (.ref h₅.objs.size) _
  rw [hsz]
  exact hQ h₈ hz₈ (up _ _ D.TOz hTO₅) (h1₅.at fun o e => up _ o D.i1z e) (h2₅.at fun o e => up _ o D.i2z e) hT₈ hz8 fun c o c1 c2 c3 c4 e => up c o c1 (hk₅ c o c1 c2 c3 c4 e)

theorem tupleHeld {z TI TO T : Addr} {f : Bool} {oT : Obj} {Q : Bool → Shared → Prop} (hz : Zh s.heap z TI TO T f) (hT : s.heap.get? T = some oT)
    (h : ∀ h', Zh h' z TI TO T true → Heap.SameBut z s.heap h' → Q false { s with heap := h' }) : wpAny (model prog w) A (Builtin.SmallTypes.ownedTupleIsFree (.ref z)) Q E s := by
  unfold Builtin.SmallTypes.ownedTupleIsFree
  refine wpAny_bind (wpAny_field hz rfl (x := rawInt T) rfl ?_)
  show wpAny _ _ (loadIfAlive ((T : Int).toNat) >>= _) _ _ _
  rw [Int.toNat_natCast]
  refine wpAny_bind (kdx_alive hT ?_)
  simp only [Option.isNone_some, Bool.false_eq_true, if_false]
  refine wpAny_bind (wpAny_field hz rfl (x := .bool f) rfl ?_)
  cases f with
  | true =>
    rw [if_neg (show ¬ ((Value.bool true != Value.bool true) = true) from Bool.false_ne_true)]
    exact wpAny_pure (h s.heap hz (Heap.SameBut.refl _ _))
  | false =>
    rw [if_pos (show (Value.bool false != Value.bool true) = true from rfl)]
    exact wpAny_bind (wpAny_setField_rec hz (by simp) fun h₁ hz₁ hs₁ => wpAny_pure (h h₁ hz₁ hs₁))

theorem zh_item {z TI TO T i1 i2 l1 l2 : Addr} {f : Bool} {oT : Obj} {k1 k2 : Nat} {xs ys : Array Value} {x y : Value} {Q : Value → Shared → Prop} (D : ZipApart z TI TO i1 i2 l1 l2)
    (hz : Zh s.heap z TI TO T f) (hT : s.heap.get? T = some oT) (hTI : IsPair s.heap TI (.ref i1) (.ref i2))
    (h1 : s.heap.IsListIter i1 l1 k1) (h2 : s.heap.IsListIter i2 l2 k2) (hl1 : s.heap.IsList l1 xs) (hl2 : s.heap.IsList l2 ys) (hx : xs[k1]? = some x) (hy : ys[k2]? = some y)
    (hQ : ∀ h', Zh h' z TI TO T true → h'.IsListIter i1 l1 (k1 + 1) → h'.IsListIter i2 l2 (k2 + 1) → IsPair h' s.heap.objs.size x y → h'.objs.size = s.heap.objs.size + 1 →
      (∀ c o, c ≠ z → c ≠ i1 → c ≠ i2 → s.heap.get? c = some o → h'.get? c = some o) → Q (.ref s.heap.objs.size) { s with heap := h' }) :
    wpAny (model prog w) A (Builtin.«zip.__next__» ⟨[.ref z], []⟩) (fun fin s' => ∃ v, fin = .done (.ret v) ∧ Q v s') E s := by
  show wpAny _ _ (field (.ref z) 2 >>= _) _ _ _
  refine wpAny_bind (wpAny_field hz rfl (x := .bool true) rfl ?_)
  show wpAny _ _ (field (.ref z) 3 >>= _) _ _ _
  refine wpAny_bind (wpAny_field hz rfl (x := .ref TI) rfl ?_)
  refine wpAny_bind (wpAny_seqItems hTI rfl ?_)
  show wpAny _ _ (Builtin.SmallTypes.ownedTupleIsFree (.ref z) >>= _) _ _ _
  refine wpAny_bind (tupleHeld hz hT fun h₁ hz₁ hs₁ => ?_)
  simp only [Bool.false_eq_true, if_false]
  refine wpAny_bind ?_
  rw [← Array.forIn_toList]
  simp only [List.forIn_cons, List.forIn_nil]
  refine wpAny_bind (wpAny_bind (wpAny_holding ?_))
  show wpAny _ _ (Builtin.SmallTypes.nextOrEnd (.ref i1)) _ _ _
  refine nextOrEnd_item (s := { s with heap := h₁ }) (h1.extBut hs₁.extBut D.i1z) (hl1.extBut hs₁.extBut D.l1z) hx fun h₂ h1₂ hs₂ => ?_
  refine wpAny_pure ?_
  refine wpAny_bind (wpAny_bind (wpAny_holding ?_))
  show wpAny _ _ (Builtin.SmallTypes.nextOrEnd (.ref i2)) _ _ _
  refine nextOrEnd_item (s := { s with heap := h₂ }) ((h2.extBut hs₁.extBut D.i2z).extBut hs₂.extBut D.i12.symm) ((hl2.extBut hs₁.extBut D.l2z).extBut hs₂.extBut D.l2i1) hy fun h₃ h2₃ hs₃ => ?_
  refine wpAny_pure (wpAny_pure ?_)
  show wpAny _ _ (newTuple [x, y] >>= _) _ _ _
  refine wpAny_bind (wpAny_newTuple ?_)
  have hsz : h₃.objs.size = s.heap.objs.size := by rw [hs₃.1, hs₂.1, hs₁.1]
  have hz₃ : Zh h₃ z TI TO T true := hs₃.extBut _ _ D.i2z.symm (hs₂.extBut _ _ D.i1z.symm hz₁)
  have hk : ∀ c o, c ≠ z → c ≠ i1 → c ≠ i2 → s.heap.get? c = some o → h₃.get? c = some o := fun c o c1 c2 c3 e => hs₃.extBut _ _ c3 (hs₂.extBut _ _ c2 (hs₁.extBut _ _ c1 e))
  have h1₃ : h₃.IsListIter i1 l1 (k1 + 1) := h1₂.extBut hs₃.extBut D.i12
  refine wpAny_pure ⟨_, rfl, ?_⟩
  show Q (.ref h₃.objs.size) _
  have hp : IsPair (h₃.push { cls := .type "tuple", data := .seq #[x, y] }) h₃.objs.size x y := Heap.get?_push_size _ rfl
  have hz4 : (h₃.push { cls := .type "tuple", data := .seq #[x, y] }).objs.size = h₃.objs.size + 1 := Heap.size_push ..
  rw [hsz] at hp hz4 ⊢
  exact hQ _ (Heap.get?_push_of_some _ hz₃) (h1₃.at fun o e => Heap.get?_push_of_some _ e) (h2₃.at fun o e => Heap.get?_push_of_some _ e) hp hz4 fun c o c1 c2 c3 e => Heap.get?_push_of_some _ (hk c o c1 c2 c3 e)

theorem zh_end {z TI TO T i1 i2 l1 l2 : Addr} {f : Bool} {oT : Obj} {k1 k2 : Nat} {xs ys : Array Value} {Q : Fin → Shared → Prop} (hh : A.handled = none) (D : ZipApart z TI TO i1 i2 l1 l2)
    (hz : Zh s.heap z TI TO T f) (hT : s.heap.get? T = some oT) (hTI : IsPair s.heap TI (.ref i1) (.ref i2))
    (h1 : s.heap.IsListIter i1 l1 k1) (h2 : s.heap.IsListIter i2 l2 k2) (hl1 : s.heap.IsList l1 xs) (hl2 : s.heap.IsList l2 ys) (hx : xs[k1]? = none) (hy : ys[k2]? = none)
    (hE : ∀ h' e, (∀ c o, c ≠ z → c ≠ i1 → c ≠ i2 → s.heap.get? c = some o → h'.get? c = some o) → (∃ o, h'.get? e = some o ∧ o.cls = .type "StopIteration") → E (.ref e) { s with heap := h' }) :
    wpAny (model prog w) A (Builtin.«zip.__next__» ⟨[.ref z], []⟩) Q E s := by
  show wpAny _ _ (field (.ref z) 2 >>= _) _ _ _
  refine wpAny_bind (wpAny_field hz rfl (x := .bool true) rfl ?_)
  show wpAny _ _ (field (.ref z) 3 >>= _) _ _ _
  refine wpAny_bind (wpAny_field hz rfl (x := .ref TI) rfl ?_)
  refine wpAny_bind (wpAny_seqItems hTI rfl ?_)
  show wpAny _ _ (Builtin.SmallTypes.ownedTupleIsFree (.ref z) >>= _) _ _ _
  refine wpAny_bind (tupleHeld hz hT fun h₁ hz₁ hs₁ => ?_)
  simp only [Bool.false_eq_true, if_false]
  refine wpAny_bind ?_
  rw [← Array.forIn_toList]
  simp only [List.forIn_cons, List.forIn_nil]
  refine wpAny_bind (wpAny_bind (wpAny_holding ?_))
  show wpAny _ _ (Builtin.SmallTypes.nextOrEnd (.ref i1)) _ _ _
  refine nextOrEnd_end (s := { s with heap := h₁ }) hh (h1.extBut hs₁.extBut D.i1z) (hl1.extBut hs₁.extBut D.l1z) hx fun h₂ hs₂ => ?_
  refine wpAny_bind ?_
  wp_delta
  refine wpAny_ite_split (fun h => absurd h (by decide)) (fun _ => ?_)
  refine wpAny_bind ?_
  show wpAny _ _ (forIn [(Value.ref i2, 1)] PUnit.unit _) _ _ _
  simp only [List.forIn_cons, List.forIn_nil]
  refine wpAny_bind (wpAny_bind ?_)
  refine nextOrEnd_end (s := { s with heap := h₂ }) hh ((h2.extBut hs₁.extBut D.i2z).extBut hs₂ D.i12.symm) ((hl2.extBut hs₁.extBut D.l2z).extBut hs₂ D.l2i1) hy fun h₃ hs₃ => ?_
  simp only [Option.isSome_none, Bool.false_eq_true, if_false]
  refine wpAny_pure (wpAny_pure ?_)
  refine wpAny_bind (wpAny_rule ?_)
  exact stop_iter (s := { s with heap := h₃ }) hh fun h' e hk he => hE h' e (fun c o c1 c2 c3 e => hk c o (hs₃ _ _ c3 (hs₂ _ _ c2 (hs₁.extBut _ _ c1 e)))) he

theorem zs_end {z TI TO i1 i2 l1 l2 : Addr} {k1 k2 : Nat} {xs ys : Array Value} {a b : Value} {Q : Fin → Shared → Prop} (hh : A.handled = none) (D : ZipApart z TI TO i1 i2 l1 l2)
    (hz : Zs s.heap z TI TO .none) (hTI : IsPair s.heap TI (.ref i1) (.ref i2)) (hTO : IsPair s.heap TO a b)
    (h1 : s.heap.IsListIter i1 l1 k1) (h2 : s.heap.IsListIter i2 l2 k2) (hl1 : s.heap.IsList l1 xs) (hl2 : s.heap.IsList l2 ys) (hx : xs[k1]? = none) (hy : ys[k2]? = none)
    (hE : ∀ h' e, (∀ c o, c ≠ z → c ≠ i1 → c ≠ i2 → s.heap.get? c = some o → h'.get? c = some o) → (∃ o, h'.get? e = some o ∧ o.cls = .type "StopIteration") → E (.ref e) { s with heap := h' }) :
    wpAny (model prog w) A (Builtin.«zip.__next__» ⟨[.ref z], []⟩) Q E s := by
  show wpAny _ _ (field (.ref z) 2 >>= _) _ _ _
  refine wpAny_bind (wpAny_field hz rfl (x := .bool true) rfl ?_)
  show wpAny _ _ (field (.ref z) 3 >>= _) _ _ _
  refine wpAny_bind (wpAny_field hz rfl (x := .ref TI) rfl ?_)
  refine wpAny_bind (wpAny_seqItems hTI rfl ?_)
  show wpAny _ _ (Builtin.SmallTypes.ownedTupleIsFree (.ref z) >>= _) _ _ _
  refine wpAny_bind ?_
  unfold Builtin.SmallTypes.ownedTupleIsFree
  refine wpAny_bind (wpAny_field hz rfl (x := .none) rfl (wpAny_pure ?_))
  simp only [if_true]
  refine wpAny_bind (wpAny_rule ?_)
  refine wpAny_bind (wpAny_field hz rfl (x := .ref TO) rfl ?_)
  refine wpAny_bind (wpAny_setField_rec hz (by simp) fun h₁ hz₁ hs₁ => ?_)
  replace hz₁ : Zs h₁ z TI TO .ellipsis := hz₁
  refine wpAny_bind ?_
  simp only [List.zipIdx_cons, List.zipIdx_nil, List.forIn_cons, List.forIn_nil]
  refine wpAny_bind (wpAny_bind (wpAny_onRaise ?_))
  show wpAny _ _ (Builtin.SmallTypes.nextOrEnd (.ref i1)) _ _ _
  refine nextOrEnd_end (s := { s with heap := h₁ }) hh (h1.extBut hs₁.extBut D.i1z) (hl1.extBut hs₁.extBut D.l1z) hx fun h₂ hs₂ => ?_
  have hz₂ : Zs h₂ z TI TO .ellipsis := hs₂ _ _ D.i1z.symm hz₁
  refine wpAny_bind (wpAny_setField_rec hz₂ (by simp) fun h₄ hz₄ hs₄ => ?_)
  refine wpAny_bind ?_
  wp_delta
  refine wpAny_ite_split (fun h => absurd h (by decide)) (fun _ => ?_)
  refine wpAny_bind ?_
  show wpAny _ _ (forIn [(Value.ref i2, 1)] PUnit.unit _) _ _ _
  simp only [List.forIn_cons, List.forIn_nil]
  refine wpAny_bind (wpAny_bind ?_)
  refine nextOrEnd_end (s := { s with heap := h₄ }) hh (((h2.extBut hs₁.extBut D.i2z).extBut hs₂ D.i12.symm).extBut hs₄.extBut D.i2z) (((hl2.extBut hs₁.extBut D.l2z).extBut hs₂ D.l2i1).extBut hs₄.extBut D.l2z) hy fun h₃ hs₃ => ?_
  simp only [Option.isSome_none, Bool.false_eq_true, if_false]
  refine wpAny_pure (wpAny_pure ?_)
  refine wpAny_bind (wpAny_rule ?_)
  exact stop_iter (s := { s with heap := h₃ }) hh fun h' e hk he => hE h' e (fun c o c1 c2 c3 e => hk c o (hs₃ _ _ c3 (hs₄.extBut _ _ c1 (hs₂ _ _ c2 (hs₁.extBut _ _ c1 e))))) he

theorem next_s {z TI TO i1 i2 l1 l2 : Addr} {k1 k2 : Nat} {xs ys : Array Value} {x y a b : Value} {Q : Option Value → Shared → Prop} (D : ZipApart z TI TO i1 i2 l1 l2)
    (hz : Zs s.heap z TI TO .none) (hTI : IsPair s.heap TI (.ref i1) (.ref i2)) (hTO : IsPair s.heap TO a b)
    (h1 : s.heap.IsListIter i1 l1 k1) (h2 : s.heap.IsListIter i2 l2 k2) (hl1 : s.heap.IsList l1 xs) (hl2 : s.heap.IsList l2 ys) (hx : xs[k1]? = some x) (hy : ys[k2]? = some y)
    (hQ : ∀ h', Zs h' z TI TO (rawInt s.heap.objs.size) → IsPair h' TO x y → h'.IsListIter i1 l1 (k1 + 1) → h'.IsListIter i2 l2 (k2 + 1) → IsPair h' s.heap.objs.size x y → h'.objs.size = s.heap.objs.size + 1 →
      (∀ c o, c ≠ z → c ≠ TO → c ≠ i1 → c ≠ i2 → s.heap.get? c = some o → h'.get? c = some o) → Q (some (.ref s.heap.objs.size)) { s with heap := h' }) :
    wpAny (model prog w) A (pyNext (.ref z)) Q E s := by
  have hTy : s.TypeIs (.ref z) "zip" := ⟨_, hz, rfl⟩
  unfold pyNext
  exact wpAny_bind (wpAny_attempt (wpAny_callSpecial?_slot (name := Str.ofString "__next__") hTy F.slot_zip_next
    (wpAny_call_entry F.slot_zip_next hTy F.entry_zip_next
      (zs_item D hz hTI hTO h1 h2 hl1 hl2 hx hy fun h' a1 a2 a3 a4 a5 a6 a7 => wpAny_pure (hQ h' a1 a2 a3 a4 a5 a6 a7)) (F.args_zip_next_1 _))))
theorem next_h {z TI TO T i1 i2 l1 l2 : Addr} {f : Bool} {oT : Obj} {k1 k2 : Nat} {xs ys : Array Value} {x y : Value} {Q : Option Value → Shared → Prop} (D : ZipApart z TI TO i1 i2 l1 l2)
    (hz : Zh s.heap z TI TO T f) (hT : s.heap.get? T = some oT) (hTI : IsPair s.heap TI (.ref i1) (.ref i2))
    (h1 : s.heap.IsListIter i1 l1 k1) (h2 : s.heap.IsListIter i2 l2 k2) (hl1 : s.heap.IsList l1 xs) (hl2 : s.heap.IsList l2 ys) (hx : xs[k1]? = some x) (hy : ys[k2]? = some y)
    (hQ : ∀ h', Zh h' z TI TO T true → h'.IsListIter i1 l1 (k1 + 1) → h'.IsListIter i2 l2 (k2 + 1) → IsPair h' s.heap.objs.size x y → h'.objs.size = s.heap.objs.size + 1 →
      (∀ c o, c ≠ z → c ≠ i1 → c ≠ i2 → s.heap.get? c = some o → h'.get? c = some o) → Q (some (.ref s.heap.objs.size)) { s with heap := h' }) :
    wpAny (model prog w) A (pyNext (.ref z)) Q E s := by
  have hTy : s.TypeIs (.ref z) "zip" := ⟨_, hz, rfl⟩
  unfold pyNext
  exact wpAny_bind (wpAny_attempt (wpAny_callSpecial?_slot (name := Str.ofString "__next__") hTy F.slot_zip_next
    (wpAny_call_entry F.slot_zip_next hTy F.entry_zip_next
      (zh_item D hz hT hTI h1 h2 hl1 hl2 hx hy fun h' a1 a3 a4 a5 a6 a7 => wpAny_pure (hQ h' a1 a3 a4 a5 a6 a7)) (F.args_zip_next_1 _))))
/-- where the walk stands: both iterators at i, the tuple out or not -/
structure ZSt (h : Heap) (z TI TO i1 i2 l1 l2 S : Addr) (xs ys : Array Value) (i : Nat) : Prop where
  ti : IsPair h TI (.ref i1) (.ref i2)
  h1 : h.IsListIter i1 l1 i
  h2 : h.IsListIter i2 l2 i
  l1 : h.IsList l1 xs
  l2 : h.IsList l2 ys
  zz : (Zs h z TI TO .none ∧ ∃ a b, IsPair h TO a b) ∨ ∃ T f oT, Zh h z TI TO T f ∧ h.get? T = some oT ∧ T ≠ z ∧ T ≠ i1 ∧ T ≠ i2 ∧ T ≠ S
theorem ZSt.z {h : Heap} {z TI TO i1 i2 l1 l2 S : Addr} {xs ys : Array Value} {i : Nat} (x : ZSt h z TI TO i1 i2 l1 l2 S xs ys i) : ∃ o, h.get? z = some o ∧ o.cls = .type "zip" := by
  rcases x.zz with ⟨hz, _⟩ | ⟨T, f, oT, hz, _⟩
  · exact ⟨_, hz, rfl⟩
  · exact ⟨_, hz, rfl⟩
structure ZOff (S z TI TO i1 i2 l1 l2 : Addr) : Prop where
  z : z ≠ S
  TI : TI ≠ S
  TO : TO ≠ S
  i1 : i1 ≠ S
  i2 : i2 ≠ S
  l1 : l1 ≠ S
  l2 : l2 ≠ S
theorem ZSt.keep {h h' : Heap} {z TI TO i1 i2 l1 l2 S : Addr} {xs ys : Array Value} {i : Nat} (x : ZSt h z TI TO i1 i2 l1 l2 S xs ys i) (d : ZOff S z TI TO i1 i2 l1 l2) (hk : ∀ b o, b ≠ S → h.get? b = some o → h'.get? b = some o) : ZSt h' z TI TO i1 i2 l1 l2 S xs ys i := by
  refine ⟨hk _ _ d.TI x.ti, x.h1.at fun o e => hk _ o d.i1 e, x.h2.at fun o e => hk _ o d.i2 e, x.l1.at fun o e => hk _ o d.l1 e, x.l2.at fun o e => hk _ o d.l2 e, ?_⟩
  rcases x.zz with ⟨hz, a, b, hTO⟩ | ⟨T, f, oT, hz, hT, r1, r2, r3, r4⟩
  · exact .inl ⟨hk _ _ d.z hz, a, b, hk _ _ d.TO hTO⟩
  · exact .inr ⟨T, f, oT, hk _ _ d.z hz, hk _ _ r4 hT, r1, r2, r3, r4⟩
abbrev zone (z TO i1 i2 : Addr) : List Addr := [z, TO, i1, i2]
theorem zst_item {z TI TO i1 i2 l1 l2 S : Addr} {xs ys : Array Value} {i : Nat} {x y : Value} {Q : Option Value → Shared → Prop} (D : ZipApart z TI TO i1 i2 l1 l2) (hst : ZSt s.heap z TI TO i1 i2 l1 l2 S xs ys i) (hS : S < s.heap.objs.size)
    (hx : xs[i]? = some x) (hy : ys[i]? = some y)
    (hQ : ∀ h', ZSt h' z TI TO i1 i2 l1 l2 S xs ys (i + 1) → IsPair h' s.heap.objs.size x y → h'.objs.size = s.heap.objs.size + 1 →
      (∀ b o, b ∉ zone z TO i1 i2 → s.heap.get? b = some o → h'.get? b = some o) → Q (some (.ref s.heap.objs.size)) { s with heap := h' }) :
    wpAny (model prog w) A (pyNext (.ref z)) Q E s := by
  obtain ⟨hTI, h1, h2, hl1, hl2, hz⟩ := hst
  have lt : ∀ {c o}, s.heap.get? c = some o → s.heap.objs.size ≠ c := fun e => Nat.ne_of_gt (Heap.lt_size e)
  have n1 : s.heap.objs.size ≠ i1 := let ⟨_, e, _⟩ := h1; lt e
  have n2 : s.heap.objs.size ≠ i2 := let ⟨_, e, _⟩ := h2; lt e
  rcases hz with ⟨hz, a, b, hTO⟩ | ⟨T, f, oT, hz, hT, r1, r2, r3, r4⟩
  · refine next_s D hz hTI hTO h1 h2 hl1 hl2 hx hy fun h' a1 a2 a3 a4 a5 a6 hk => ?_
    exact hQ h' ⟨hk _ _ D.TIz D.TITO D.TIi1 D.TIi2 hTI, a3, a4, hl1.at fun o e => hk _ o D.l1z D.l1TO D.l1i1 D.l1i2 e, hl2.at fun o e => hk _ o D.l2z D.l2TO D.l2i1 D.l2i2 e,
      .inr ⟨s.heap.objs.size, false, _, a1, a5, lt hz, n1, n2, Nat.ne_of_gt hS⟩⟩ a5 a6 fun c o hc e => hk c o (fun x => hc (by simp [x])) (fun x => hc (by simp [x])) (fun x => hc (by simp [x])) (fun x => hc (by simp [x])) e
  · refine next_h D hz hT hTI h1 h2 hl1 hl2 hx hy fun h' a1 a3 a4 a5 a6 hk => ?_
    exact hQ h' ⟨hk _ _ D.TIz D.TIi1 D.TIi2 hTI, a3, a4, hl1.at fun o e => hk _ o D.l1z D.l1i1 D.l1i2 e, hl2.at fun o e => hk _ o D.l2z D.l2i1 D.l2i2 e,
      .inr ⟨T, true, oT, a1, hk _ _ r1 r2 r3 hT, r1, r2, r3, r4⟩⟩ a5 a6 fun c o hc e => hk c o (fun x => hc (by simp [x])) (fun x => hc (by simp [x])) (fun x => hc (by simp [x])) e
theorem zst_done {z TI TO i1 i2 l1 l2 S : Addr} {xs ys : Array Value} {i : Nat} {Q : Option Value → Shared → Prop} (hh : A.handled = none) (D : ZipApart z TI TO i1 i2 l1 l2) (hst : ZSt s.heap z TI TO i1 i2 l1 l2 S xs ys i)
    (hx : xs[i]? = none) (hy : ys[i]? = none)
    (hQ : ∀ h', (∀ b o, b ∉ zone z TO i1 i2 → s.heap.get? b = some o → h'.get? b = some o) → Q none { s with heap := h' }) :
    wpAny (model prog w) A (pyNext (.ref z)) Q E s := by
  obtain ⟨hTI, h1, h2, hl1, hl2, hz⟩ := hst
  rcases hz with ⟨hz, a, b, hTO⟩ | ⟨T, f, oT, hz, hT, r1, r2, r3, r4⟩
  · have hTy : s.TypeIs (.ref z) "zip" := ⟨_, hz, rfl⟩
    unfold pyNext
    refine wpAny_bind (wpAny_attempt (wpAny_callSpecial?_slot (name := Str.ofString "__next__") hTy F.slot_zip_next
      (wpAny_call_entry F.slot_zip_next hTy F.entry_zip_next (zs_end hh D hz hTI hTO h1 h2 hl1 hl2 hx hy fun h' e hk he => ?_) (F.args_zip_next_1 _))))
    obtain ⟨o, ho, hc⟩ := he
    refine wpAny_bind (wpAny_isInstance (T := "StopIteration") (b := true) ⟨o, ho, hc⟩ isSubtype_stop ?_)
    exact wpAny_pure (hQ _ fun c o hc e => hk c o (fun x => hc (by simp [x])) (fun x => hc (by simp [x])) (fun x => hc (by simp [x])) e)
  · have hTy : s.TypeIs (.ref z) "zip" := ⟨_, hz, rfl⟩
    unfold pyNext
    refine wpAny_bind (wpAny_attempt (wpAny_callSpecial?_slot (name := Str.ofString "__next__") hTy F.slot_zip_next
      (wpAny_call_entry F.slot_zip_next hTy F.entry_zip_next (zh_end hh D hz hT hTI h1 h2 hl1 hl2 hx hy fun h' e hk he => ?_) (F.args_zip_next_1 _))))
    obtain ⟨o, ho, hc⟩ := he
    refine wpAny_bind (wpAny_isInstance (T := "StopIteration") (b := true) ⟨o, ho, hc⟩ isSubtype_stop ?_)
    exact wpAny_pure (hQ _ fun c o hc e => hk c o (fun x => hc (by simp [x])) (fun x => hc (by simp [x])) (fun x => hc (by simp [x])) e)
end
end Cz

namespace Cz
open PySem PySem.W PySem.Calls PyProof.Rows
structure ZG (xs ys : Array Value) (lo : Addr) (h : Heap) (as : List Addr) : Prop where
  rise : as.Pairwise (· < ·)
  above : ∀ a ∈ as, lo < a
  pairs : ∀ (j : Nat) (a : Addr), as[j]? = some a → ∃ x y, xs[j]? = some x ∧ ys[j]? = some y ∧ IsPair h a x y
theorem ZG.there {xs ys : Array Value} {lo : Addr} {h : Heap} {as : List Addr} (g : ZG xs ys lo h as) {a : Addr} (ha : a ∈ as) : a < h.objs.size := by
  obtain ⟨j, hj⟩ := List.mem_iff_getElem?.mp ha
  obtain ⟨_, _, _, _, e⟩ := g.pairs j a hj
  exact Heap.lt_size e
section
variable {prog : Program} {w : World} {A : Around} {s : Shared} {R : Result → Shared → Prop}
theorem zip_loop {S z TI TO i1 i2 l1 l2 : Addr} {xs ys : Array Value} {n : Nat} (hh : A.handled = none) (D : ZipApart z TI TO i1 i2 l1 l2) (off : ZOff S z TI TO i1 i2 l1 l2) (low : ∀ b ∈ zone z TO i1 i2, b < S)
    (hxs : xs.size = n) (hys : ys.size = n) (hn : n ≤ sizeLine) (res : Value) {h₁ : Heap}
    (hR : ∀ h' tk acc c as, (∀ b o, b ≠ S → b ∉ zone z TO i1 i2 → h₁.get? b = some o → h'.get? b = some o) → h'.get? S = some { cls := .type "list", dict := none, data := .seq acc c, slots := #[] } → as.length = n → ZG xs ys S h' as →
      acc.toList = as.map Value.ref → R (.ok (.ret res)) { s with heap := h', toks := tk }) :
    ∀ (k i : Nat) (h : Heap) (tk c : Nat) (acc : Array Value) (as : List Addr), n - i = k → i ≤ n → ZSt h z TI TO i1 i2 l1 l2 S xs ys i → (∀ b o, b ≠ S → b ∉ zone z TO i1 i2 → h₁.get? b = some o → h.get? b = some o) →
      h.get? S = some { cls := .type "list", dict := none, data := .seq acc c, slots := #[] } → acc.toList = as.map Value.ref → as.length = i → ZG xs ys S h as →
      codeAny (model prog w) A (.builtin "list.extend.loop" ⟨[.ref S, .ref z, res], []⟩) R { s with heap := h, toks := tk } := by
  have Soff : S ∉ zone z TO i1 i2 := fun m => Nat.lt_irrefl _ (low _ m)
  intro k
  induction k with
  | zero =>
    intro i h tk c acc as hk hi hst hkeep hS hacc hal hG
    have hin : i = n := by omega
    refine codeAny_builtin PySem.F.entry_extend_loop ?_
    rw [Around.under_plainId PySem.F.plain_extend_loop _]
    show wpAny _ A.in1 (pyNext (.ref z) >>= _) _ _ _
    refine wpAny_bind (zst_done (s := { s with heap := h, toks := tk }) (A := A.in1) hh D hst (Array.getElem?_eq_none (by omega)) (Array.getElem?_eq_none (by omega)) fun h' he => ?_)
    refine wpAny_pure (hR h' tk acc c as (fun b o h1 h2 e => he b o h2 (hkeep b o h1 h2 e)) (he S _ Soff hS) (by omega) ⟨hG.rise, hG.above, fun j a hj => ?_⟩ hacc)
    obtain ⟨x, y, e1, e2, e3⟩ := hG.pairs j a hj
    exact ⟨x, y, e1, e2, he a _ (fun m => Nat.lt_asymm (low _ m) (hG.above a (List.mem_of_getElem? hj))) e3⟩
  | succ k ih =>
    intro i h tk c acc as hk hi hst hkeep hS hacc hal hG
    have hlt : i < n := by omega
    have hx : xs[i]? = some (xs[i]'(by omega)) := Array.getElem?_eq_getElem (by omega)
    have hy : ys[i]? = some (ys[i]'(by omega)) := Array.getElem?_eq_getElem (by omega)
    generalize (xs[i]'(by omega)) = x at hx
    generalize (ys[i]'(by omega)) = y at hy
    have hsz : acc.size = i := by rw [← Array.length_toList, hacc, List.length_map, hal]
    refine codeAny_builtin PySem.F.entry_extend_loop ?_
    rw [Around.under_plainId PySem.F.plain_extend_loop _]
    show wpAny _ A.in1 (pyNext (.ref z) >>= _) _ _ _
    refine wpAny_bind (zst_item (s := { s with heap := h, toks := tk }) (S := S) D hst (Heap.lt_size hS) hx hy fun h' hst' ht hz hkp => ?_)
    dsimp only at ht hz hkp ⊢
    have hS' := hkp S _ Soff hS
    have up : ∀ b o, b ≠ S → h'.get? b = some o → (h'.update S (Obj.mapSeq (·.push (Value.ref h.objs.size)))).get? b = some o := fun b o hb e => (Heap.get?_update_other _ _ (Ne.symm hb)).trans e
    have hSl : S < h.objs.size := Heap.lt_size hS
    show wpAny _ A.in1 (updateSeq S (·.push (Value.ref h.objs.size)) >>= _) _ _ _
    refine wpAny_bind ?_
    refine wpAny_updateSeq hS' rfl (wpAny_pure ⟨plainId_quiet PySem.F.plain_extend_loop _, ih (i + 1) _ tk _ (acc.push (Value.ref h.objs.size)) (as ++ [h.objs.size]) (by omega) hlt (hst'.keep off up)
      (fun b o h1 h2 e => up b o h1 (hkp b o h2 (hkeep b o h1 h2 e))) (Heap.get?_update_self _ hS' rfl) (by rw [Array.toList_push, hacc, List.map_append]; rfl) (by rw [List.length_append, hal]; rfl) ⟨?_, ?_, ?_⟩⟩) (by rw [hsz]; omega) (by show (acc.push (Value.ref h.objs.size)).size ≤ sizeLine + 1; rw [Array.size_push, hsz]; omega)
    · refine List.pairwise_append.mpr ⟨hG.rise, List.pairwise_singleton _ _, fun a ha b hb => ?_⟩
      rw [List.mem_singleton.mp hb]
      exact hG.there ha
    · intro a ha
      rcases List.mem_append.mp ha with ha | ha
      · exact hG.above a ha
      · rw [List.mem_singleton.mp ha]; exact hSl
    · intro j b hj
      rcases Nat.lt_trichotomy j as.length with h1 | h1 | h1
      · rw [List.getElem?_append_left h1] at hj
        obtain ⟨x', y', e1, e2, e3⟩ := hG.pairs j b hj
        have hb := hG.above b (List.mem_of_getElem? hj)
        exact ⟨x', y', e1, e2, up b _ (Nat.ne_of_gt hb) (hkp b _ (fun m => Nat.lt_asymm (low _ m) hb) e3)⟩
      · subst h1
        have hb : h.objs.size = b := by simpa using hj
        subst hb
        exact ⟨x, y, by rw [hal]; exact hx, by rw [hal]; exact hy, up _ _ (Nat.ne_of_gt hSl) ht⟩
      · have hnone : (as ++ [h.objs.size])[j]? = none := List.getElem?_eq_none (by rw [List.length_append, List.length_singleton]; omega)
        rw [hnone] at hj; cases hj
end
theorem zip_nolen : typeLookup (.type "zip") "__len__" = pure none := am_miss_of_fast (by decide +kernel)
theorem zip_nohint : typeLookup (.type "zip") "__length_hint__" = pure none := am_miss_of_fast (by decide +kernel)
section
variable {prog : Program} {w : World} {A : Around} {E : Value → Shared → Prop} {s : Shared} {S z TI TO i1 i2 l1 l2 : Addr} {xs ys : Array Value} {n : Nat}
theorem zip_hint {r : Addr} (hT : s.TypeIs (.ref r) "zip") {Q : Bool → Shared → Prop} (h : Q true s) : wpAny (model prog w) A (Builtin.List.listLengthHint (.ref r)) Q E s := by
  unfold Builtin.List.listLengthHint
  refine wpAny_bind (wpAny_specialOf hT zip_nolen ?_)
  show wpAny _ _ (specialOf (Value.ref r) (Str.ofString "__length_hint__") >>= _) _ _ _
  refine wpAny_bind (wpAny_specialOf hT zip_nohint ?_)
  exact wpAny_pure h
theorem zip_iter (hT : s.TypeIs (.ref z) "zip") {Q : Value → Shared → Prop} (h : Q (.ref z) s) : wpAny (model prog w) A (pyIter (.ref z)) Q E s := by
  refine wpAny_pyIter_slot hT F.slot_zip_iter (wpAny_call_entry F.slot_zip_iter hT F.entry_zip_iter ?_ (F.args_zip_iter_1 _))
  show wpAny _ _ (ret (.ref z)) _ _ s
  exact wpAny_pure ⟨_, rfl, "zip", _, hT, F.slot_zip_next.lookup, h⟩
theorem zip_extend {R : Result → Shared → Prop} (hh : A.handled = none) (D : ZipApart z TI TO i1 i2 l1 l2) (off : ZOff S z TI TO i1 i2 l1 l2) (low : ∀ b ∈ zone z TO i1 i2, b < S)
    (hxs : xs.size = n) (hys : ys.size = n) (hn : n ≤ sizeLine) (hst : ZSt s.heap z TI TO i1 i2 l1 l2 S xs ys 0) (res : Value) (c₀ : Nat) (hS : s.heap.get? S = some { cls := .type "list", data := .seq #[] c₀ })
    (hR : ∀ h' tk acc c as, (∀ b o, b ≠ S → b ∉ zone z TO i1 i2 → s.heap.get? b = some o → h'.get? b = some o) → h'.get? S = some { cls := .type "list", dict := none, data := .seq acc c, slots := #[] } → as.length = n → ZG xs ys S h' as →
      acc.toList = as.map Value.ref → R (.ok (.ret res)) { s with heap := h', toks := tk }) :
    wpAny (model prog w) A.in1 (Builtin.List.listExtendWith (.ref S) (.ref z) res)
      (fun fin s' => match fin with | .done f => R (.ok f) s' | .again c' => c'.quiet = true ∧ codeAny (model prog w) A c' R s') (fun e s' => R (.error e) s') s := by
  have hT : s.TypeIs (.ref z) "zip" := hst.z
  have key : ∀ (h : Heap) (c₁ tk : Nat), (∀ b o, b ≠ S → s.heap.get? b = some o → h.get? b = some o) →
      h.get? S = some { cls := .type "list", data := .seq #[] c₁ } → codeAny (model prog w) A (.builtin "list.extend.loop" ⟨[.ref S, .ref z, res], []⟩) R { s with heap := h, toks := tk } := by
    intro h c₁ tk hk hS₁
    exact zip_loop (s := s) (h₁ := s.heap) hh D off low hxs hys hn res hR n 0 h tk c₁ #[] [] (Nat.sub_zero _) (Nat.zero_le _) (hst.keep off hk) (fun b o hb _ e => hk b o hb e) hS₁ rfl rfl
      ⟨List.Pairwise.nil, (fun _ ha => nomatch ha), (fun j a hj => by simp at hj)⟩
  unfold Builtin.List.listExtendWith
  refine wpAny_bind (wpAny_typeOf (T := "zip") hT ?_)
  have h1 : Builtin.List.listSameRef (.ref S) (.ref z) = false := by simp [Builtin.List.listSameRef, off.z.symm]
  have h2 : (Value.type "zip" == Value.type "list") = false := by decide
  have h3 : (Value.type "zip" == Value.type "tuple") = false := by decide
  simp only [h1, h2, h3, Bool.or_false, Bool.false_eq_true, if_false]
  refine wpAny_bind (zip_iter hT ?_)
  refine wpAny_bind (wpAny_holding (zip_hint hT ?_))
  refine wpAny_ite_split (fun _ => ?_) (fun _ => wpAny_pure ⟨plainId_quiet PySem.F.plain_extend_loop _, key _ c₀ _ (fun b o _ e => e) hS⟩)
  refine wpAny_bind (wpAny_rule ?_)
  refine wpAny_bind ?_
  show wpAny _ _ (updateSeq S (·.push .none) >>= fun _ => updateSeq S (·.pop)) _ _ _
  refine wpAny_bind (wpAny_updateSeq hS rfl ?_)
  have hS₂ := Heap.get?_update_self (Obj.mapSeq (·.push Value.none)) hS rfl
  refine wpAny_updateSeq (hz := by seq_fits) hS₂ rfl ?_
  have hS₃ := Heap.get?_update_self (Obj.mapSeq (·.pop)) hS₂ rfl
  refine wpAny_pure ⟨plainId_quiet PySem.F.plain_extend_loop _, key _ _ _ (fun b o hb e => ?_) hS₃⟩
  exact (Heap.get?_update_other _ _ (Ne.symm hb)).trans ((Heap.get?_update_other _ _ (Ne.symm hb)).trans e)
theorem zip_init {R : Result → Shared → Prop} (hh : A.handled = none) (D : ZipApart z TI TO i1 i2 l1 l2) (off : ZOff S z TI TO i1 i2 l1 l2) (low : ∀ b ∈ zone z TO i1 i2, b < S)
    (hxs : xs.size = n) (hys : ys.size = n) (hn : n ≤ sizeLine) (hst : ZSt s.heap z TI TO i1 i2 l1 l2 S xs ys 0) (hS : s.heap.get? S = some { cls := .type "list", data := .seq #[] })
    (hR : ∀ h' tk acc c as, (∀ b o, b ≠ S → b ∉ zone z TO i1 i2 → s.heap.get? b = some o → h'.get? b = some o) → h'.get? S = some { cls := .type "list", dict := none, data := .seq acc c, slots := #[] } → as.length = n → ZG xs ys S h' as →
      acc.toList = as.map Value.ref → R (.ok (.ret .none)) { s with heap := h', toks := tk }) :
    wpAny (model prog w) A.in1 (Builtin.«list.__init__» ⟨[.ref S, .ref z], []⟩)
      (fun fin s' => match fin with | .done f => R (.ok f) s' | .again c' => c'.quiet = true ∧ codeAny (model prog w) A c' R s') (fun e s' => R (.error e) s') s := by
  show wpAny _ _ (do let old ← Builtin.List.listItems (.ref S); Builtin.List.listUpdate (.ref S) (fun _ => #[]); letGo old.toList.reverse; Builtin.List.listExtendWith (.ref S) (.ref z) .none) _ _ s
  refine wpAny_bind ?_
  unfold Builtin.List.listItems
  refine wpAny_bind (wpAny_seqItems hS rfl (wpAny_pure ?_))
  show wpAny _ _ (updateSeq S (fun _ => #[]) >>= fun _ => letGo (#[] : Array Value).toList.reverse >>= fun _ => Builtin.List.listExtendWith (.ref S) (.ref z) .none) _ _ s
  refine wpAny_bind (wpAny_updateSeq hS rfl ?_)
  have hS₂ := Heap.get?_update_self (Obj.mapSeq (fun _ => (#[] : Array Value))) hS rfl
  have oth : ∀ b o, b ≠ S → s.heap.get? b = some o → (s.heap.update S (Obj.mapSeq (fun _ => (#[] : Array Value)))).get? b = some o :=
    fun b o hb e => (Heap.get?_update_other _ _ (Ne.symm hb)).trans e
  refine wpAny_bind (wpAny_letGo ?_)
  refine zip_extend hh D off low hxs hys hn (hst.keep off oth) .none _ hS₂ (fun h' tk acc c as hk hS' hl hG hacc => ?_)
  exact hR h' tk acc c as (fun b o hb hb2 e => hk b o hb hb2 (oth b o hb e)) hS' hl hG hacc
/-- list(z), z a strict zip over two lists as long as each other -/
theorem zip_list {Q : Value → Shared → Prop} (hh : A.handled = none) (D : ZipApart z TI TO i1 i2 l1 l2) (lim : z < s.heap.objs.size ∧ TI < s.heap.objs.size ∧ TO < s.heap.objs.size ∧ i1 < s.heap.objs.size ∧ i2 < s.heap.objs.size ∧ l1 < s.heap.objs.size ∧ l2 < s.heap.objs.size)
    (hxs : xs.size = n) (hys : ys.size = n) (hn : n ≤ sizeLine) (hst : ZSt s.heap z TI TO i1 i2 l1 l2 s.heap.objs.size xs ys 0)
    (hQ : ∀ h' tk acc c as, (∀ b o, b ∉ zone z TO i1 i2 → s.heap.get? b = some o → h'.get? b = some o) → h'.get? s.heap.objs.size = some { cls := .type "list", dict := none, data := .seq acc c, slots := #[] } → as.length = n → ZG xs ys s.heap.objs.size h' as →
      acc.toList = as.map Value.ref → Q (.ref s.heap.objs.size) { s with heap := h', toks := tk }) :
    wpAny (model prog w) A (call (.type "list") [.ref z]) Q E s := by
  refine callType_codes (Q₁ := fun obj s₁ => obj = .ref s.heap.objs.size ∧ s₁ = { s with heap := s.heap.push { cls := .type "list", data := .seq #[] } }) PySem.F.called_list (PySem.F.typeCall_list_1 _) PySem.F.entry_list_init
    (code_list_new _ ⟨rfl, rfl⟩) fun obj s₁ h₁ => ?_
  obtain ⟨rfl, rfl⟩ := h₁
  have hS : (s.heap.push { cls := .type "list", data := .seq #[] }).get? s.heap.objs.size = some { cls := .type "list", data := .seq #[] } := Heap.get?_push_size _ rfl
  obtain ⟨m1, m2, m3, m4, m5, m6, m7⟩ := lim
  have off : ZOff s.heap.objs.size z TI TO i1 i2 l1 l2 := ⟨Nat.ne_of_lt m1, Nat.ne_of_lt m2, Nat.ne_of_lt m3, Nat.ne_of_lt m4, Nat.ne_of_lt m5, Nat.ne_of_lt m6, Nat.ne_of_lt m7⟩
  refine ⟨⟨_, hS, rfl⟩, PySem.F.args_list_init_2 _ _, zip_init (A := A.in1) hh D off (fun b hb => ?_) hxs hys hn (hst.keep off fun b o _ e => Heap.get?_push_of_some _ e) hS (fun h' tk acc c as hk hS' hl hG hacc => ?_)⟩
  · simp only [zone, List.mem_cons, List.not_mem_nil, or_false] at hb
    rcases hb with rfl | rfl | rfl | rfl <;> assumption
  · exact ⟨rfl, hQ h' tk acc c as (fun b o hb e => hk b o (Nat.ne_of_lt (Heap.lt_size e)) hb (Heap.get?_push_of_some _ e)) hS' hl hG hacc⟩
end

/-! the making of it -/
abbrev zipS5 (h : Heap) (l1 l2 : Addr) : Heap := (zipH4 h l1 l2).push { cls := .type "zip", data := .fields #[.none, .bool false, .bool true, .ref (zipH2 h l1 l2).objs.size, .ref (zipH3 h l1 l2).objs.size] }
theorem typeCall_zip_k (a b c : Value) : checkTypeCall "zip" ⟨[a, b], [(Str.ofString "strict", c)]⟩ = pure () := by kernel_rfl
theorem newCall_zip_k (a b c : Value) : checkBuiltinCall "zip.__new__" ⟨[.type "zip", a, b], [(Str.ofString "strict", c)]⟩ = pure () := by kernel_rfl
theorem args_object_init_k (obj a b c : Value) : argsOk "object.__init__" ⟨[obj, a, b], [(Str.ofString "strict", c)]⟩ := by unfold argsOk; kernel_rfl
theorem meets_zip_newK (l1 l2 : Addr) (xs ys : Array Value) :
    Meets (Builtin.«zip.__new__» ⟨[.type "zip", .ref l1, .ref l2], [(Str.ofString "strict", .bool true)]⟩) (fun _ R s => s.heap.IsList l1 xs ∧ s.heap.IsList l2 ys ∧
      R (.ok (.ret (.ref (zipH4 s.heap l1 l2).objs.size))) { s with heap := zipS5 s.heap l1 l2 }) :=
  .of_wp fun prog w A R s h => by
    obtain ⟨hp, g, d, tk, os⟩ := s; obtain ⟨hl1, hl2, h⟩ := h
    have hsub := sub_zip
    have hL1 : Heap.IsList (Shared.heap ⟨hp, g, d, tk, os⟩) l1 xs := hl1
    have hL2 : Heap.IsList (Shared.heap ⟨hp.push { cls := .type "list_iterator", data := .fields #[.ref l1, .int 0 0] }, g, d, tk, os⟩) l2 ys := Heap.IsList.push hl2 _
    have e2 : (Str.ofString "strict" != ("strict" : Str)) = false := by decide +kernel
    wp_walk using wpAny_pyIter_list hL1, wpAny_pyIter_list hL2
    exact ⟨_, rfl, h⟩

section
variable {prog : Program} {w : World} {A : Around} {E : Value → Shared → Prop} {s : Shared}
theorem call_zip_k {l1 l2 : Addr} {xs ys : Array Value} {Q : Value → Shared → Prop} (hl1 : s.heap.IsList l1 xs) (hl2 : s.heap.IsList l2 ys)
    (h : ∀ h', Zs h' (s.heap.objs.size + 4) (s.heap.objs.size + 2) (s.heap.objs.size + 3) .none → IsPair h' (s.heap.objs.size + 2) (.ref s.heap.objs.size) (.ref (s.heap.objs.size + 1)) →
      IsPair h' (s.heap.objs.size + 3) .none .none → h'.IsListIter s.heap.objs.size l1 0 → h'.IsListIter (s.heap.objs.size + 1) l2 0 → h'.objs.size = s.heap.objs.size + 5 →
      (∀ c o, s.heap.get? c = some o → h'.get? c = some o) → Q (.ref (s.heap.objs.size + 4)) { s with heap := h' }) :
    wpAny (model prog w) A (call (.type "zip") [.ref l1, .ref l2] [(Str.ofString "strict", .bool true)]) Q E s := by
  refine callType_newKw F.called_zip (by decide) (typeCall_zip_k _ _ _) (newCall_zip_k _ _ _) (fun obj => args_object_init_k obj _ _ _) F.entry_zip_new
    (meets_zip_newK l1 l2 xs ys) ⟨hl1, hl2, ?_⟩
  have z1 : (zipH1 s.heap l1).objs.size = s.heap.objs.size + 1 := Heap.size_push ..
  have z2 : (zipH2 s.heap l1 l2).objs.size = s.heap.objs.size + 2 := by rw [Heap.size_push, z1]
  have z3 : (zipH3 s.heap l1 l2).objs.size = s.heap.objs.size + 3 := by rw [Heap.size_push, z2]
  have z4 : (zipH4 s.heap l1 l2).objs.size = s.heap.objs.size + 4 := by rw [Heap.size_push, z3]
  have z5 : (zipS5 s.heap l1 l2).objs.size = s.heap.objs.size + 5 := by rw [Heap.size_push, z4]
  have g5 : (zipS5 s.heap l1 l2).get? (zipH4 s.heap l1 l2).objs.size = some _ := Heap.get?_push_size _ rfl
  have g4 : (zipS5 s.heap l1 l2).get? (zipH3 s.heap l1 l2).objs.size = some _ := Heap.get?_push_of_some _ (Heap.get?_push_size _ rfl)
  have g3 : (zipS5 s.heap l1 l2).get? (zipH2 s.heap l1 l2).objs.size = some _ := Heap.get?_push_of_some _ (Heap.get?_push_of_some _ (Heap.get?_push_size _ rfl))
  have g2 : (zipS5 s.heap l1 l2).get? (zipH1 s.heap l1).objs.size = some _ := Heap.get?_push_of_some _ (Heap.get?_push_of_some _ (Heap.get?_push_of_some _ (Heap.get?_push_size _ rfl)))
  have g1 : (zipS5 s.heap l1 l2).get? s.heap.objs.size = some _ := Heap.get?_push_of_some _ (Heap.get?_push_of_some _ (Heap.get?_push_of_some _ (Heap.get?_push_of_some _ (Heap.get?_push_size _ rfl))))
  show _ ∧ _
  rw [z2, z3, z4] at g5
  rw [z1, z2] at g3
  rw [z3] at g4
  rw [z1] at g2
  rw [z4]
  exact ⟨⟨_, g5, rfl⟩, h _ g5 g3 g4 ⟨_, g1, rfl, rfl⟩ ⟨_, g2, rfl, rfl⟩ z5 fun c o x =>
    Heap.get?_push_of_some _ (Heap.get?_push_of_some _ (Heap.get?_push_of_some _ (Heap.get?_push_of_some _ (Heap.get?_push_of_some _ x))))⟩
end
end Cz

namespace Cz
open PySem PySem.Spec PyProof.Rows L2 Cv
open Evl (Ex)
def putP : Hp → List Addr → List (V × V) → Hp
  | H, a :: as, p :: ps => putP (upd H a (.tup [p.1, p.2])) as ps
  | H, _, _ => H
theorem putP_off {b : Addr} : ∀ (as : List Addr) (ps : List (V × V)) (H : Hp), b ∉ as → putP H as ps b = H b
  | [], _, _, _ => rfl
  | _ :: _, [], _, _ => rfl
  | a :: as, p :: ps, H, h => by
    show putP (upd H a (.tup [p.1, p.2])) as ps b = H b
    rw [putP_off as ps _ (fun z => h (List.mem_cons_of_mem _ z)), upd_ne (fun z => h (by rw [z]; exact List.mem_cons_self))]
theorem putP_at : ∀ (as : List Addr) (ps : List (V × V)) (H : Hp), as.length = ps.length → as.Nodup → Paired (fun (t : Addr) (p : V × V) => putP H as ps t = some (.tup [p.1, p.2])) as ps
  | [], [], _, _, _ => .nil
  | [], _ :: _, _, h, _ => by cases h
  | _ :: _, [], _, h, _ => by cases h
  | a :: as, p :: ps, H, h, hn => by
    have hn' := List.nodup_cons.mp hn
    have ih := putP_at as ps (upd H a (.tup [p.1, p.2])) (Nat.succ.inj h) hn'.2
    refine .cons ?_ ih
    show putP (upd H a (.tup [p.1, p.2])) as ps a = some (.tup [p.1, p.2])
    rw [putP_off as ps _ hn'.1, upd_same]
section
variable {X : Cx} {pins : List (Addr × Obj)} {σ : L2.St} {H : Hp} {s : Shared} {h' : Heap} {xs ys : List V} {us vs : List Value} {n : Nat}
theorem zip_laid {tk : Nat} {acc : Array Value} {c : Nat} {as : List Addr} {S : Addr} (I : Inv X pins σ H s) (hS0 : s.heap.objs.size ≤ S) (hx : Vals xs us) (hy : Vals ys vs) (lx : xs.length = n) (ly : ys.length = n) (hn : n ≤ sizeLine)
    (hk : ∀ b o, s.heap.get? b = some o → h'.get? b = some o) (hS : h'.get? S = some { cls := .type "list", dict := none, data := .seq acc c, slots := #[] }) (hl : as.length = n) (hG : ZG us.toArray vs.toArray S h' as) (hacc : acc.toList = as.map Value.ref) :
    ∃ H' : Hp, Ex H H' ∧ H S = none ∧ H' S = some (.lst (as.map V.ref)) ∧ (∀ (j : Nat) (a : Addr), as[j]? = some a → ∃ x y, xs[j]? = some x ∧ ys[j]? = some y ∧ H a = none ∧ H' a = some (.tup [x, y])) ∧ Inv X pins σ H' { s with heap := h', toks := tk } := by
  have lk : as.length = (xs.zip ys).length := by rw [List.length_zip, lx, ly, hl, Nat.min_self]
  have hSn : S ∉ as := fun z => Nat.lt_irrefl _ (hG.above _ z)
  have nd : as.Nodup := List.Pairwise.imp (fun {a b} (h : a < b) => Nat.ne_of_lt h) hG.rise
  have big : ∀ t ∈ as, s.heap.objs.size ≤ t := fun t ht => Nat.le_trans hS0 (Nat.le_of_lt (hG.above t ht))
  have new : ∀ t ∈ as, H t = none := fun t ht => I.hok.fresh (big t ht)
  have newS : H S = none := I.hok.fresh hS0
  have atP := putP_at as (xs.zip ys) (upd H S (.lst (as.map V.ref))) lk nd
  generalize hH : putP (upd H S (.lst (as.map V.ref))) as (xs.zip ys) = H' at atP
  have off : ∀ b, b ∉ as → b ≠ S → H' b = H b := fun b h1 h2 => by rw [← hH, putP_off as _ _ h1, upd_ne h2]
  have low : ∀ b o, s.heap.get? b = some o → b ∉ as ∧ b ≠ S := fun b o e =>
    ⟨fun z => absurd (Heap.lt_size e) (Nat.not_lt.mpr (big b z)), fun z => absurd (Heap.lt_size e) (Nat.not_lt.mpr (by rw [z]; exact hS0))⟩
  have kp : ∀ b u, H b = some u → H' b = some u := fun b u e => by
    rw [off b (fun z => by rw [new b z] at e; cases e) (fun z => by rw [z, newS] at e; cases e)]
    exact e
  have eS : H' S = some (.lst (as.map V.ref)) := by rw [← hH, putP_off as _ _ hSn, upd_same]
  refine ⟨H', kp, newS, eS, fun j a hj => ?_, ?_⟩
  · obtain ⟨p, e1, e2⟩ := LiI.paired_get atP hj
    obtain ⟨f1, f2⟩ : xs[j]? = some p.1 ∧ ys[j]? = some p.2 := by
      rw [List.getElem?_zip_eq_some] at e1
      exact e1
    exact ⟨p.1, p.2, f1, f2, new a (List.mem_of_getElem? hj), e2⟩
  · refine I.call' (ch := []) rfl ⟨fun b o q _ _ _ => hk b o q, fun b o q _ _ _ => ⟨o.slots, hk b o q⟩, fun b o q n _ => ?_, fun b o q _ => ⟨o, hk b o q⟩, fun b xs q => kp b _ q, fun b o u q => kp b _ q, fun b ps q => ⟨#[], by rw [kp b _ q]; simp⟩⟩ (fun b u q => ?_) I.bare fun b z => by simp at z
    · obtain ⟨z1, z2⟩ := low b o q
      rw [off b z1 z2]
      exact n
    · by_cases hb : b ∈ as
      · obtain ⟨j, pk, e1, e2, e3⟩ := LiI.paired_ix atP hb
        rw [e3] at q
        cases q
        obtain ⟨f1, f2⟩ : xs[j]? = some pk.1 ∧ ys[j]? = some pk.2 := by
          rw [List.getElem?_zip_eq_some] at e2
          exact e2
        obtain ⟨x, y, g1, g2, g3⟩ := hG.pairs j b e1
        obtain ⟨x', k1, k2⟩ := hx.get f1
        obtain ⟨y', l1, l2⟩ := hy.get f2
        rw [List.getElem?_toArray, k1] at g1
        rw [List.getElem?_toArray, l1] at g2
        cases g1
        cases g2
        exact ⟨by show 2 ≤ sizeLine; decide, [x, y], .cons k2 (.cons l2 .nil), ⟨_, g3, rfl, _, rfl⟩⟩
      · by_cases hb2 : b = S
        · rw [hb2] at q ⊢
          rw [eS] at q
          cases q
          refine ⟨by rw [List.length_map]; omega, acc.toList, c, by rw [hacc]; exact LiI.vals_refs as, ?_⟩
          rw [Array.toArray_toList]
          exact hS
        · rw [off b hb hb2] at q
          exact (I.hok b u q).stay (fun d v _ y => hk d v y) (fun d y => kp d _ y) fun d xs y => kp d _ y
end
section
variable {M : Model} {A : Around} {E : Value → Shared → Prop} {s : Shared} {env : Env}
theorem callWith_typeK {pos : Pos} {T : String} {e : Expr} {rest : List Expr} {kws : List Keyword} {Q : Value → Shared → Prop}
    (h : wpAny M A (spliced (backTo pos (starEach (e :: rest) env))) (fun vs s₁ => wpAny M A (evalAll ((backToKw pos (keywordEach kws env)).map (·.2)))
      (fun kvs s₂ => wpAny M A (call (.type T) vs (((backToKw pos (keywordEach kws env)).filterMap (·.1)).zip kvs)) Q E s₂) E s₁) E s)
    (he : backTo pos (starEach (e :: rest) env) = (false, eval e env) :: backTo pos (starEach rest env) := by rfl)
    (hplain : (backTo pos (starEach (e :: rest) env)).any (·.1) = false := by rfl)
    (hall : (backToKw pos (keywordEach kws env)).all (·.1.isSome) = true := by rfl)
    (hkw : (backToKw pos (keywordEach kws env)).any (·.1.isNone) = false := by rfl) :
    wpAny M A (callWith pos (.type T) [] (backTo pos (starEach (e :: rest) env)) (backToKw pos (keywordEach kws env))) Q E s := by
  unfold callWith
  have h2 : wpAny M A (evalArgs (.type T) true (backTo pos (starEach (e :: rest) env)) (backToKw pos (keywordEach kws env))) (fun a s₁ => wpAny M A (call (.type T) ([] ++ a.pos) a.kw) Q E s₁) E s := by
    rw [he] at h ⊢
    exact evalArgs_kwB hall h
  refine wpAny_bind (wpAny_holding (wpAny_mono h2 (fun a s₁ h₁ => wpAny_bind (wpAny_standAt ?_)) fun _ _ x => x))
  simp only [hplain, hkw, Bool.or_false]
  refine wpAny_bind (wpAny_pure ?_)
  exact wpAny_bind (wpAny_mono h₁ (fun r s₂ hr => wpAny_bind (wpAny_holding (wpAny_point (wpAny_pure hr)))) fun _ _ x => x)
end
theorem lim5 (n a b : Nat) (h1 : a < n) (h2 : b < n) : n + 4 < n + 5 ∧ n + 2 < n + 5 ∧ n + 3 < n + 5 ∧ n < n + 5 ∧ n + 1 < n + 5 ∧ a < n + 5 ∧ b < n + 5 := by omega
theorem out5 (n b : Nat) (h : b < n) (m : b = n + 4 ∨ b = n + 3 ∨ b = n ∨ b = n + 1) : False := by omega
def tZipS (K : PySem.W.Frag) (t : TA) : TE := fun σ H Q => t σ H fun vs H1 => ∃ a b xs ys, vs = [.ref a, .ref b] ∧ SqL K H1 a xs ∧ SqL K H1 b ys ∧ xs.length = ys.length ∧
  ∀ (H' : Hp) (S : Addr) (as : List Addr), Ex H1 H' → H1 S = none → H' S = some (.lst (as.map V.ref)) → as.length = xs.length → (∀ (j : Nat) (a : Addr), as[j]? = some a → ∃ x y, xs[j]? = some x ∧ ys[j]? = some y ∧ H1 a = none ∧ H' a = some (.tup [x, y])) → Q (.ref S) H'
/-- list(zip(e, e2, strict=True)), the two as long as each other -/
theorem pe_zipS {X : Cx} {e e2 : Expr} {t : TA} {p p2 pos cpos kp cp : Pos} {j : Nat} (hc : X.calm = true) (hg1 : Gl X "list") (hm1 : X.mg "list" = none) (hg : Gl X "zip") (hm : X.mg "zip" = none) (ha : PA X [e, e2] t)
    (hs : starEach [.Call (.Name "zip" p2) [e, e2] [⟨some (Str.ofString "strict"), .Constant (.bool true) j cp, kp⟩] cpos] X.env = (false, eval (.Call (.Name "zip" p2) [e, e2] [⟨some (Str.ofString "strict"), .Constant (.bool true) j cp, kp⟩] cpos) X.env) :: starEach [] X.env := by rfl)
    (he : backTo cpos (starEach [e, e2] X.env) = (false, eval e X.env) :: backTo cpos (starEach [e2] X.env) := by rfl) (hpl : (backTo cpos (starEach [e, e2] X.env)).any (·.1) = false := by rfl) :
    PE X (.Call (.Name "list" p) [.Call (.Name "zip" p2) [e, e2] [⟨some (Str.ofString "strict"), .Constant (.bool true) j cp, kp⟩] cpos] [] pos) (tZipS X.K t) := by
  refine ⟨fun pins s σ H Q I h => ?_⟩
  refine wpAny_Call_Name_kw (ld_blt I hg1 hm1 PyProof.Rows.boot_list ?_)
  refine PyProof.Rows.callWith_type1 ?_ hs rfl
  rw [hs]
  show wpAny _ _ (spliced ((false, eval (.Call (.Name "zip" p2) [e, e2] [⟨some (Str.ofString "strict"), .Constant (.bool true) j cp, kp⟩] cpos) X.env) :: backTo pos (starEach [] X.env))) _ _ s
  refine Calls.spliced_cons ?_
  refine wpAny_Call_Name_kw (ld_blt I hg hm PyProof.Rows.boot_zip ?_)
  refine callWith_typeK (thn (ha.run cpos pins s σ H _ I h) fun us s1 ⟨vs, H1, I1, r1, q1⟩ => ?_) he hpl
  refine kws_cons (wpAny_pure (kws_nil ?_))
  obtain ⟨a, b, xs, ys, ex, hqx, hqy, hl, q⟩ := q1
  subst ex
  cases r1 with
  | cons r rr =>
    cases rr with
    | cons r' rr =>
      cases rr
      cases r
      cases r'
      obtain ⟨its, rv, p1, hz⟩ := I1.list hqx
      obtain ⟨its2, rv2, p2, _⟩ := I1.list hqy
      have la : a < s1.heap.objs.size := p1.lt
      have lb : b < s1.heap.objs.size := p2.lt
      show wpAny _ _ (call (.type "zip") [.ref a, .ref b] [(Str.ofString "strict", .bool true)]) _ _ _
      refine call_zip_k p1.isList p2.isList fun h' hzz hTI hTO h1 h2 hsz hk => ?_
      refine Calls.spliced_nil ?_
      have D := PySem.W.ktu_apart s1.heap.objs.size a b la lb
      refine zip_list (s := { s1 with heap := h' }) (xs := its.toArray) (ys := its2.toArray) (n := xs.length) (I1.ok.hd hc) D ?_ (by rw [List.size_toArray]; exact rv.length.symm) (by rw [List.size_toArray, hl]; exact rv2.length.symm) hz
        ⟨hTI, h1, h2, (p1.isList).at fun o e => hk _ o e, (p2.isList).at fun o e => hk _ o e, .inl ⟨hzz, _, _, hTO⟩⟩ fun h'' tk acc c as hk2 hS hla hG hacc => ?_
      · show _ < h'.objs.size ∧ _
        rw [hsz]
        exact lim5 _ _ _ la lb
      · have hS0 : s1.heap.objs.size ≤ h'.objs.size := by rw [hsz]; exact Nat.le_add_right _ _
        have hkk : ∀ b o, s1.heap.get? b = some o → h''.get? b = some o := fun b o e => hk2 b o (fun m => by
          have hb5 := Heap.lt_size e
          simp only [zone, List.mem_cons, List.not_mem_nil, or_false] at m
          exact out5 _ _ hb5 m) (hk b o e)
        obtain ⟨H', k1, k2, k3, k4, J⟩ := zip_laid (tk := tk) I1 hS0 rv rv2 rfl hl.symm hz hkk hS hla hG hacc
        exact ⟨.ref _, H', J, rfl, q H' _ as k1 k2 k3 hla k4⟩
end Cz
namespace Cv
open PySem PySem.Spec PyProof.Rows L2
open Evl (Ex)
theorem DqA.of_get {H : Hp} : ∀ {vs : List V} {ds : List PyData}, vs.length = ds.length → (∀ (j : Nat) (v : V) (d : PyData), vs[j]? = some v → ds[j]? = some d → Dq H v d) → DqA H vs ds
  | [], [], _, _ => .nil
  | [], _ :: _, h, _ => by cases h
  | _ :: _, [], h, _ => by cases h
  | v :: vs, d :: ds, h, k => .cons (k 0 v d rfl rfl) (DqA.of_get (Nat.succ.inj h) fun j x y e1 e2 => k (j + 1) x y (by simpa using e1) (by simpa using e2))
/-- list(zip(a, b, strict=True)) -/
theorem pd_zipS {X : Cx} {ex : List Addr} {Γ : List Sl} {e e2 : Expr} {p p2 pos cpos kp cp : Pos} {j : Nat} {ds es : List PyData} (hc : X.calm = true) (hg1 : Gl X "list") (hm1 : X.mg "list" = none) (hg : Gl X "zip") (hm : X.mg "zip" = none)
    (ha : PD X ex Γ e (.list ds)) (hb : PD X ex Γ e2 (.list es)) (hl : ds.length = es.length)
    (hs : starEach [.Call (.Name "zip" p2) [e, e2] [⟨some (Str.ofString "strict"), .Constant (.bool true) j cp, kp⟩] cpos] X.env = (false, eval (.Call (.Name "zip" p2) [e, e2] [⟨some (Str.ofString "strict"), .Constant (.bool true) j cp, kp⟩] cpos) X.env) :: starEach [] X.env := by rfl)
    (he : backTo cpos (starEach [e, e2] X.env) = (false, eval e X.env) :: backTo cpos (starEach [e2] X.env) := by rfl) (hpl : (backTo cpos (starEach [e, e2] X.env)).any (·.1) = false := by rfl)
    (hs1 : starEach [e, e2] X.env = (false, eval e X.env) :: starEach [e2] X.env := by rfl) (hs2 : starEach [e2] X.env = (false, eval e2 X.env) :: starEach [] X.env := by rfl) :
    PD X ex Γ (.Call (.Name "list" p) [.Call (.Name "zip" p2) [e, e2] [⟨some (Str.ofString "strict"), .Constant (.bool true) j cp, kp⟩] cpos] [] pos) (.list ((List.range ds.length).map fun i => .tuple [ds.getD i .none, es.getD i .none])) := fun σ H E A Q q => by
  refine we_of (Cz.pe_zipS hc hg1 hm1 hg hm pa_w hs he hpl) ?_
  refine ad_cons ha (ad_cons hb ad_nil hs2) hs1 σ H E A _ fun vs H1 e1 h1 => ?_
  obtain ⟨v, w', rfl, g, g'⟩ := h1.two
  obtain ⟨a, xs, rfl, f1, r1⟩ := g.lsti
  obtain ⟨a2, ys, rfl, f2, r2⟩ := g'.lsti
  refine ⟨a, a2, xs, ys, rfl, SqL.of (era_some f1).2, SqL.of (era_some f2).2, by rw [r1.len, r2.len, hl], fun H' S as k1 k2 k3 k4 k5 => ?_⟩
  have A1 := A.up e1
  refine q _ H' (e1.trans k1) (.lst (by rw [era_at (A1.out k2)]; exact k3) (DqA.of_get (by rw [List.length_map, List.length_map, List.length_range, k4, r1.len]) fun i v d e3 e4 => ?_))
  rw [List.getElem?_map, Option.map_eq_some_iff] at e3
  obtain ⟨t, t1, rfl⟩ := e3
  obtain ⟨x, y, g1, g2, g3, g4⟩ := k5 i t t1
  obtain ⟨d1, y1, y2⟩ := r1.get' g1
  obtain ⟨d2, z1, z2⟩ := r2.get' g2
  have hi : i < ds.length := (List.getElem?_eq_some_iff.mp y1).1
  rw [List.getElem?_map, List.getElem?_range hi] at e4
  have e5 := Option.some.inj e4
  subst e5
  show Dq (era ex H') (V.ref t) (.tuple [ds.getD i .none, es.getD i .none])
  rw [List.getD_eq_getElem?_getD, List.getD_eq_getElem?_getD, y1, z1]
  exact .tup (by rw [era_at (A1.out g3)]; exact g4) (.cons (y2.up (era_ex k1)) (.cons (z2.up (era_ex k1)) .nil))
end Cv

namespace Cv
open PySem PySem.Spec PyProof.Rows L2
open Evl (Ex)
def leftO (l : List Int) (y i : Nat) : Option Rat := if valid l.length y i = true then some (adj l.length y (sF l) i - M y (sF l) i) else none
def dOs (n : Nat) (o : Nat → Option Rat) : PyData := .list ((List.range n).map fun i => dO (o i))
def dFs (n : Nat) (q : Nat → Rat) : PyData := .list ((List.range n).map fun i => dF (q i))
theorem shp_os (n : Nat) (o : Nat → Option Rat) : shp 3 (dOs n o) := by
  have h := shp_Os ((List.range n).map o)
  rw [List.map_map] at h
  exact h
theorem shp_fs (n : Nat) (o : Nat → Rat) : shp 3 (dFs n o) := by
  have h := shp_Fs ((List.range n).map o)
  rw [List.map_map] at h
  exact h
theorem dOs_congr {n : Nat} {o o' : Nat → Option Rat} (h : ∀ i, i < n → o i = o' i) : dOs n o = dOs n o' := by
  unfold dOs
  congr 1
  exact List.map_congr_left fun i hi => by rw [h i (List.mem_range.mp hi)]
theorem dFs_congr {n : Nat} {o o' : Nat → Rat} (h : ∀ i, i < n → o i = o' i) : dFs n o = dFs n o' := by
  unfold dFs
  congr 1
  exact List.map_congr_left fun i hi => by rw [h i (List.mem_range.mp hi)]
def cLeft (ds : List PyData) (d : PyData) : Prop := ∃ (l : List Int) (y : Nat), ds = [dS l, .int (y : Int)] ∧ Good l y ∧ d = dOs l.length (leftO l y)
def cPA (ds : List PyData) (d : PyData) : Prop := ∃ (n : Nat) (o : Nat → Option Rat) (q : Nat → Rat), ds = [dOs n o, dFs n q] ∧ n ≤ 200 ∧ (∀ i r, i < n → o i = some r → Sm r ∧ Sm (q i) ∧ Sm (r + q i)) ∧ d = dOs n fun i => (o i).map (· + q i)
def cTA (ds : List PyData) (d : PyData) : Prop := ∃ (n : Nat) (o : Nat → Option Rat) (c : Int), ds = [dOs n o, .int c] ∧ n ≤ 200 ∧ c.natAbs < 2 ^ 64 ∧ (∀ i r, i < n → o i = some r → Sm r) ∧ d = dOs n fun i => (o i).map (c * ·)
theorem IV.congr {X : Cx} {ex : List Addr} {Γ : List Sl} {tg iter : Expr} {n n' : Nat} {xd xd' : Nat → PyData} (h : IV X ex Γ tg iter n xd) (hn : n = n') (hx : ∀ i, i < n → xd i = xd' i) : IV X ex Γ tg iter n' xd' := by
  subst hn
  intro σ H E A
  obtain ⟨wi, h1, h2⟩ := h σ H E A
  refine ⟨wi, h1, fun Rk k => h2 Rk fun J H2 Y e W hY => k J H2 Y e W fun i H' v H'' hi eH y => ?_⟩
  obtain ⟨a, b⟩ := hY i H' v H'' hi eH y
  exact ⟨a, fun ex' g A' => by rw [← hx i hi]; exact b ex' g A'⟩
theorem isNone_O (o : Option Rat) : isNoneD (dO o) = o.isNone := by cases o <;> rfl
theorem sc30 : FnScope ["series", "year", "both", "number", "mean"] ["series", "year"] (defScope (topS 30)) := ⟨rfl, rfl, rfl, by decide +kernel, rfl, by decide +kernel, by decide +kernel⟩
theorem sc38 : FnScope ["_law_one", "_law_other", "_law_rest"] ["_law_one", "_law_other"] (defScope (topS 38)) := ⟨rfl, rfl, rfl, by decide +kernel, rfl, by decide +kernel, by decide +kernel⟩
theorem sc39 : FnScope ["_law_top", "_law_bottom", "_law_common"] ["_law_top", "_law_bottom"] (defScope (topS 39)) := ⟨rfl, rfl, rfl, by decide +kernel, rfl, by decide +kernel, by decide +kernel⟩
theorem sc40 : FnScope ["_law_some", "_law_found", "_law_one"] ["_law_some"] (defScope (topS 40)) := ⟨rfl, rfl, rfl, by decide +kernel, rfl, by decide +kernel, by decide +kernel⟩
theorem sc43 : FnScope ["_law_some", "_law_more", "_law_found", "_law_one", "_law_other"] ["_law_some", "_law_more"] (defScope (topS 43)) := ⟨rfl, rfl, rfl, by decide +kernel, rfl, by decide +kernel, by decide +kernel⟩
theorem sc44 : FnScope ["_law_some", "_law_num", "_law_found", "_law_one"] ["_law_some", "_law_num"] (defScope (topS 44)) := ⟨rfl, rfl, rfl, by decide +kernel, rfl, by decide +kernel, by decide +kernel⟩
/-- one more stands at the end of the list that is being filled -/
theorem lb_push {ex : List Addr} {H0 Hb H : Hp} {fo : Addr} {ds : List PyData} {acc : List V} {v : V} {d : PyData} (q : Ex (era (fo :: ex) Hb) (era (fo :: ex) H) ∧ LB ex H0 fo ds H) (h1 : H fo = some (.lst acc)) (h2 : Dq (era (fo :: ex) H) v d) :
    Ex (era (fo :: ex) Hb) (era (fo :: ex) (upd H fo (.lst (acc ++ [v])))) ∧ LB ex H0 fo (ds ++ [d]) (upd H fo (.lst (acc ++ [v]))) := by
  obtain ⟨q1, q2, q3, q4, q5, acc', a1, a2⟩ := q
  rw [h1] at a1
  cases a1
  refine ⟨?_, q2.mut q3, q3, q4, fun a ha z => ?_, acc ++ [v], upd_same, ?_⟩
  · rw [era_upd List.mem_cons_self]
    exact q1
  · have hne : a ≠ fo := fun e => q4 (e ▸ ha)
    rw [upd_ne hne] at z
    exact q5 a ha z
  · rw [era_upd List.mem_cons_self]
    exact a2.app (.cons h2 .nil)
theorem lb_len {ex : List Addr} {H0 Hb H : Hp} {fo : Addr} {ds : List PyData} (q : Ex (era (fo :: ex) Hb) (era (fo :: ex) H) ∧ LB ex H0 fo ds H) (h : ds.length < 100000) : ∃ acc, H fo = some (.lst acc) ∧ acc.length < 100000 := by
  obtain ⟨_, _, _, _, _, acc, a1, a2⟩ := q
  exact ⟨acc, a1, by rw [a2.len]; exact h⟩
theorem rat_two (q r : Rat) : [q, r].sum = q + r := by rw [List.sum_cons, List.sum_cons, List.sum_nil, Rat.add_zero]
theorem sms_two {q r : Rat} (h1 : Sm q) (h2 : Sm r) (h3 : Sm (q + r)) : SmS [q, r] := by
  constructor
  · intro x hx
    simp only [List.mem_cons, List.not_mem_nil, or_false] at hx
    rcases hx with e | e
    · rw [e]; exact h1
    · rw [e]; exact h2
  · intro n
    cases n with
    | zero => exact sm_int (i := 0) (by decide)
    | succ n =>
      cases n with
      | zero =>
        show Sm [q].sum
        rw [List.sum_cons, List.sum_nil, Rat.add_zero]
        exact h1
      | succ n =>
        rw [List.take_of_length_le (by simp), rat_two]
        exact h3
theorem rat_smul (q : Rat) (c : Int) : Rat.divInt (q.num * c) (q.den : Int) = (c : Rat) * q := by
  have h := Rat.divInt_mul_divInt q.num c (d₁ := q.den) (d₂ := 1)
  rw [divInt_self, Int.mul_one] at h
  rw [← h, Rat.mul_comm]
  congr 1
  exact divInt_self (c : Rat)
section
variable {P : Program} {w : World} {K : PySem.W.Frag} {mg : Str → Option Value} {base : Heap}
theorem ok30 {f : Addr} {fd : FuncData} (F0 : Fun K "left_over" "left_over" (topS 30) f fd) (m : Mg mg) (dMu : Dn P w K mg base "must_be_series" 3 ["series", "year"] (spD cMust)) (dA : Dn P w K mg base "adjusted_list" 6 ["series", "year"] (spD cAdjL))
    (dMe : Dn P w K mg base "means" 4 ["series", "year"] (spD cMeans)) (dMi : Dn P w K mg base "minus" 3 ["one", "other"] (spD cMinus)) : FnOk P w K mg base CX0 7 f fd ["series", "year"] (spD cLeft) := by
  refine ok_body F0 sc30 (fun ds d ⟨a, b, e, _⟩ => by rw [e]; rfl) fun cdv A outer s H0 E ds d ex hr hC D hD hN => ?_
  obtain ⟨l, y, rfl, g, rfl⟩ := hC
  have g1 := g.y2
  have g4 := g.most
  have S := g.ser
  refine sd_expr ro_p (pd_call dMu (hr.mono (by decide)) (by rfl) (ad_cons (pd_var (i := 0) rfl (.inl rfl) rfl) (ad_cons (pd_var (i := 1) rfl (.inl rfl) rfl) ad_nil)) ⟨l, y, rfl, g, rfl⟩) ?_
  refine sd_set 2 ro_p sc30.nd rfl (.inl rfl) (pd_zipS rfl (by rfl) m.list (by rfl) m.zip (pd_call dA (hr.mono (by decide)) (by rfl) (ad_cons (pd_var (i := 0) rfl (.inl rfl) rfl) (ad_cons (pd_var (i := 1) rfl (.inl rfl) rfl) ad_nil)) ⟨l, y, rfl, g, rfl⟩)
    (pd_call dMe (hr.mono (by decide)) (by rfl) (ad_cons (pd_var (i := 0) rfl (.inl rfl) rfl) (ad_cons (pd_var (i := 1) rfl (.inl rfl) rfl) ad_nil)) ⟨l, y, rfl, g, rfl⟩) (by rw [List.length_map, List.length_map])) ?_
  refine sd_ret ro_p ((pd_lc rfl sc30.nd (lc_pair (i := 3) (j := 4) (n := l.length) (d1 := fun i => dF (adj l.length y (sF l) i)) (d2 := fun i => dO (meanO l y i)) (yd := fun i => dO (leftO l y i)) (by decide) (blkOk_by (N := ["series", "year", "both", "number", "mean"]) (sc := defScope (topS 30)) (by decide +kernel))
    ((iv_list (pd_var (i := 2) rfl (.inl rfl) rfl)).congr ?_ (fun i hi => ?_)) (by omega) (fun _ _ _ _ _ => pg_tup rfl (pgs_cons (pg_name (i := 3) sc30.nd rfl (.inl rfl)) (pgs_cons (pg_name (i := 4) sc30.nd rfl (.inl rfl)) pgs_nil))) (fun i hi Dl s' H' C cl fp => ?_))).to rfl) hD
  · rw [List.length_map, List.length_range, List.length_map, List.length_range]
  · rw [List.length_map, List.length_range, List.length_map, List.length_range] at hi
    rw [range_getD (by rw [List.length_map, List.length_range]; exact hi), range_getD hi, range_getD hi]
  · refine pd_if (x := (meanO l y i).isNone) ((td_isN (pd_var (i := 4) rfl (.inl rfl) rfl)).to (isNone_O _)) (fun hx => ?_) (fun hx => ?_)
    · refine pd_none.to ?_
      unfold leftO
      unfold meanO at hx
      by_cases hv : valid l.length y i = true
      · rw [if_pos hv] at hx; cases hx
      · rw [if_neg hv]; rfl
    · unfold meanO at hx
      by_cases hv : valid l.length y i = true
      · have e1 : dO (meanO l y i) = dF (M y (sF l) i) := by unfold meanO; rw [if_pos hv]; rfl
        have e2 : dO (leftO l y i) = dF (adj l.length y (sF l) i - M y (sF l) i) := by unfold leftO; rw [if_pos hv]; rfl
        rw [e2]
        exact pd_call dMi (hr.mono (by decide)) (by rfl) (ad_cons (pd_var (i := 3) rfl (.inl rfl) rfl) (ad_cons ((pd_var (i := 4) rfl (.inl rfl) rfl).to e1) ad_nil)) ⟨_, _, rfl, S.sm (S.c_adj i) (by omega), S.sm (S.c_M i) (by omega), rfl⟩
      · rw [if_neg hv] at hx; cases hx
theorem ok38 {f : Addr} {fd : FuncData} (F : Fun K "_law_shared" "_law_shared" (topS 38) f fd) (mabs : mg "abs" = none) : FnOk P w K mg base CX0 1 f fd ["_law_one", "_law_other"] (spD cShared) := by
  refine ok_body F sc38 (fun ds d ⟨a, b, e, _, _⟩ => by rw [e]; rfl) fun cdv A outer s H0 E ds d ex hr hC D hD _ => ?_
  obtain ⟨a, b, rfl, hb, rfl⟩ := hC
  refine sd_while (τ := Int × Int) (fun t => [.dat (.int t.1), .dat (.int t.2), .non]) (fun t => 0 ≤ t.2 ∧ Int.gcd t.1 t.2 = Int.gcd a b) (fun t => t.2.toNat) (a, b) PassesOwn.never ro_p (less_refl _) ⟨hb, rfl⟩ fun t it => ?_
  obtain ⟨u, v⟩ := t
  obtain ⟨i1, i2⟩ := it
  refine ⟨_, td_neI hr.units (pd_var (i := 1) rfl (.inl rfl) rfl) pd_int, fun hb1 => ?_, fun hb0 => ?_⟩
  · have hv : v ≠ 0 := by simpa using hb1
    have hv2 : 0 < v := by have : 0 ≤ v := i1; omega
    refine sd_set 2 ro_p sc38.nd rfl (.inl rfl) (pd_mod (pd_var (i := 0) rfl (.inl rfl) rfl) (pd_var (i := 1) rfl (.inl rfl) rfl) hv2) ?_
    refine sd_set 0 ro_p sc38.nd rfl (.inl rfl) (pd_var (i := 1) rfl (.inl rfl) rfl) ?_
    refine sd_set 1 ro_p sc38.nd rfl (.inl rfl) (pd_var (i := 2) rfl (.inl rfl) rfl) ?_
    refine sd_wend (v, u % v) ⟨Int.emod_nonneg _ hv, (gcd_turn u v).trans i2⟩ ?_ (less_by rfl fun i hi => by
        match i, hi with
        | 0, _ => exact .inr rfl
        | 1, _ => exact .inr rfl
        | 2, _ => exact .inl rfl)
    have := Int.emod_lt_of_pos u hv2
    have := Int.emod_nonneg u hv
    show (u % v).toNat < v.toNat
    omega
  · have hv : v = 0 := by simpa using hb0
    subst hv
    refine sd_ret ro_p (pd_abs rfl mabs (pd_var (i := 0) rfl (.inl rfl) rfl)) fun v' H' r hd => hD v' H' r ?_
    rw [← i2, Int.gcd_zero_right]
    exact hd
theorem ok39 {f : Addr} {fd : FuncData} (F : Fun K "_law_lowest" "_law_lowest" (topS 39) f fd) (dS : Dn P w K mg base "_law_shared" 1 ["_law_one", "_law_other"] (spD cShared)) : FnOk P w K mg base CX0 2 f fd ["_law_top", "_law_bottom"] (spD cLowest) := by
  refine ok_body F sc39 (fun ds d ⟨a, b, e, _, _, _⟩ => by rw [e]; rfl) fun cdv A outer s H0 E ds d ex hr hC D hD _ => ?_
  obtain ⟨t, b, rfl, hb, hz, rfl⟩ := hC
  refine sd_set 2 ro_p sc39.nd rfl (.inl rfl) (pd_call dS hr rfl (ad_cons (pd_var (i := 0) rfl (.inl rfl) rfl) (ad_cons (pd_var (i := 1) rfl (.inl rfl) rfl) ad_nil)) ⟨t, b, rfl, by omega, rfl⟩) ?_
  refine sd_skip ro_p ((td_lt (pd_var (i := 1) rfl (.inl rfl) rfl) pd_int).to (decide_eq_false (by omega))) ?_
  refine sd_ret ro_p (pd_tup (ad_cons (pd_fdiv (pd_var (i := 0) rfl (.inl rfl) rfl) (pd_var (i := 2) rfl (.inl rfl) rfl) (wdiv hb hz)) (ad_cons (pd_fdiv (pd_var (i := 1) rfl (.inl rfl) rfl) (pd_var (i := 2) rfl (.inl rfl) rfl) (wdiv hb hz)) ad_nil))) fun v H r hd => hD v H r ?_
  rw [num_low hb, den_low hb] at hd
  exact hd
theorem ok40 {f : Addr} {fd : FuncData} (F : Fun K "_law_sum" "_law_sum" (topS 40) f fd) (dL : Dn P w K mg base "_law_lowest" 2 ["_law_top", "_law_bottom"] (spD cLowest)) : FnOk P w K mg base CX0 3 f fd ["_law_some"] (spD cSum) := by
  refine ok_body F sc40 (fun ds d ⟨a, e, _⟩ => by rw [e]; rfl) fun cdv A outer s H0 E ds d ex hr hC D hD _ => ?_
  obtain ⟨qs, rfl, hs, rfl⟩ := hC
  refine sd_set 1 ro_p sc40.nd rfl (.inl rfl) ((pd_tup (ad_cons pd_int (ad_cons pd_int ad_nil))).to (show _ = dF 0 by rfl)) ?_
  refine sd_for (fun i => [.dat (.list (qs.map dF)), .dat (dF (qs.take i).sum), .non]) _ (fun _ => RP ex H0) PassesOwn.never rfl ro_p (fun _ => ro_p) (iv_list (pd_var (i := 0) rfl (.inl rfl) rfl)) (gfr_name 2 sc40.nd rfl (.inl rfl)) (less_refl _) (fun _ h => h) (fun i hi Hb => ?_) ?_
  · have hi' : i < qs.length := by simpa using hi
    have hq := hs.2 i
    have hr' := hs.1 _ (List.getElem_mem hi')
    rw [getD_F hi']
    refine sd_set 1 (ro_p.base Hb) sc40.nd rfl (.inl rfl) (pd_call dL hr rfl (ad_cons (pd_add (pd_mul (pd_ixT (pd_var (i := 1) rfl (.inl rfl) rfl) pd_int ix0) (pd_ixT (pd_var (i := 2) rfl (.inl rfl) rfl) pd_int ix1) (hq.mul_nd hr'))
      (pd_mul (pd_ixT (pd_var (i := 2) rfl (.inl rfl) rfl) pd_int ix0) (pd_ixT (pd_var (i := 1) rfl (.inl rfl) rfl) pd_int ix1) (hr'.mul_nd hq)))
      (ad_cons (pd_mul (pd_ixT (pd_var (i := 1) rfl (.inl rfl) rfl) pd_int ix1) (pd_ixT (pd_var (i := 2) rfl (.inl rfl) rfl) pd_int ix1) (hq.mul_dd hr')) ad_nil)) ⟨_, _, rfl, dd_pos _ _, hq.dd_lt hr', rfl⟩) ?_
    rw [rat_add, ← sum_take1 hi']
    exact sd_nil fun σ H E' q => ⟨E'.less ⟨rfl, fun j s hj => by
      match j, hj with
      | 0, hj => exact .inr hj
      | 1, hj => exact .inr hj
      | 2, hj => exact .inl (Option.some.inj hj).symm⟩, q⟩
  · refine sd_ret ro_p ((pd_var (i := 1) rfl (.inl rfl) rfl).to ?_) hD
    rw [List.length_map, List.take_length]
theorem ok43 {f : Addr} {fd : FuncData} (F0 : Fun K "_law_plus_all" "_law_plus_all" (topS 43) f fd) (m : Mg mg) (dSu : Dn P w K mg base "_law_sum" 3 ["_law_some"] (spD cSum)) : FnOk P w K mg base CX0 4 f fd ["_law_some", "_law_more"] (spD cPA) := by
  refine ok_body F0 sc43 (fun ds d ⟨n, o, q, e, _⟩ => by rw [e]; rfl) fun cdv A outer s H0 E ds d ex hr hC D hD hN => ?_
  obtain ⟨n, o, q, rfl, hn, hb, rfl⟩ := hC
  refine sd_new 2 sc43.nd rfl (.inl rfl) fun fo => ?_
  refine sd_for (n := n) (xd := fun i => .tuple [dO (o i), dF (q i)]) (fun _ => [.dat (dOs n o), .dat (dFs n q), .val (.ref fo), .non, .non]) _
    (fun i => LB ex H0 fo ((List.range i).map fun k => dO ((o k).map (· + q k)))) PassesOwn.never rfl ro_lb (fun _ => ro_lb) ((iv_zip (by rfl) m.zip (pd_var (i := 0) rfl (.inl rfl) rfl) (pd_var (i := 1) rfl (.inl rfl) rfl)).congr ?_ (fun i hi => ?_))
    (gfr_pair 3 4 (pg_tup rfl (pgs_cons (pg_name (i := 3) sc43.nd rfl (.inl rfl)) (pgs_cons (pg_name (i := 4) sc43.nd rfl (.inl rfl)) pgs_nil)))) (less_refl _) (fun _ h => h) (fun k hk Hb => ?_) ?_
  · rw [List.length_map, List.length_range, List.length_map, List.length_range, Nat.min_self]
  · rw [List.length_map, List.length_range, List.length_map, List.length_range, Nat.min_self] at hi
    rw [range_getD hi, range_getD hi]
  · refine sd_if (ro_lb.base Hb) (b := (o k).isNone) ((td_isN (pd_var (i := 3) rfl (.inl rfl) rfl)).to (isNone_O _)) (fun hx => ?_) (fun hx => ?_)
    · obtain ho : o k = none := Option.isNone_iff_eq_none.mp hx
      refine sd_app (R' := fun H => Ex (era (fo :: ex) Hb) (era (fo :: ex) H) ∧ LB ex H0 fo ((List.range (k + 1)).map fun k => dO ((o k).map (· + q k))) H) (i := 2) (d := dO ((o k).map (· + q k))) (ro_lb.base Hb) (fun H q => lb_len q ?_) rfl (.inl rfl) rfl ?_ rfl (fun H acc v q h1 h2 => ?_) ?_
        (fun te h => pe_bm PySem.F.plainAttrs_list PySem.F.slot_list_append PySem.F.type_list_append mt_append (pe_var (i := 2) rfl (.inl rfl)) (pa_cons h pa_nil))
      · rw [List.length_map, List.length_range]; omega
      · exact pd_none.to (by rw [ho]; rfl)
      · have h := lb_push q h1 h2
        rw [List.range_succ, List.map_append]
        exact h
      · refine sd_nil fun σ H E' q => ?_
        refine ws_of pss_nil ⟨E'.less (less_by rfl fun i hi => by
          match i, hi with
          | 0, _ => exact .inr rfl
          | 1, _ => exact .inr rfl
          | 2, _ => exact .inr rfl
          | 3, _ => exact .inl rfl
          | 4, _ => exact .inl rfl), q⟩
    · obtain ⟨r, ho⟩ : ∃ r, o k = some r := by
        cases h : o k with
        | none => rw [h] at hx; cases hx
        | some r => exact ⟨r, rfl⟩
      obtain ⟨b1, b2, b3⟩ := hb k r hk ho
      refine sd_app (R' := fun H => Ex (era (fo :: ex) Hb) (era (fo :: ex) H) ∧ LB ex H0 fo ((List.range (k + 1)).map fun k => dO ((o k).map (· + q k))) H) (i := 2) (d := dO ((o k).map (· + q k))) (ro_lb.base Hb) (fun H q => lb_len q ?_) rfl (.inl rfl) rfl ?_ rfl (fun H acc v q h1 h2 => ?_) ?_
        (fun te h => pe_bm PySem.F.plainAttrs_list PySem.F.slot_list_append PySem.F.type_list_append mt_append (pe_var (i := 2) rfl (.inl rfl)) (pa_cons h pa_nil))
      · rw [List.length_map, List.length_range]; omega
      · exact (pd_call dSu (hr.mono (by decide)) (by rfl) (ad_cons (pd_lst (ad_cons ((pd_var (i := 3) rfl (.inl rfl) rfl).to (show dO (o k) = dF r by rw [ho]; rfl)) (ad_cons (pd_var (i := 4) rfl (.inl rfl) rfl) ad_nil))) ad_nil) ⟨[r, q k], rfl, sms_two b1 b2 b3, rfl⟩).to (by rw [ho, rat_two]; rfl)
      · have h := lb_push q h1 h2
        rw [List.range_succ, List.map_append]
        exact h
      · refine sd_nil fun σ H E' q => ?_
        refine ws_of pss_nil ⟨E'.less (less_by rfl fun i hi => by
          match i, hi with
          | 0, _ => exact .inr rfl
          | 1, _ => exact .inr rfl
          | 2, _ => exact .inr rfl
          | 3, _ => exact .inl rfl
          | 4, _ => exact .inl rfl), q⟩
  · refine sd_done 2 rfl ?_
    exact sd_ret ro_p (pd_var (i := 2) rfl (.inl rfl) rfl) hD
theorem ok44 {f : Addr} {fd : FuncData} (F0 : Fun K "_law_times_all" "_law_times_all" (topS 44) f fd) (m : Mg mg) (dL : Dn P w K mg base "_law_lowest" 2 ["_law_top", "_law_bottom"] (spD cLowest)) : FnOk P w K mg base CX0 3 f fd ["_law_some", "_law_num"] (spD cTA) := by
  refine ok_body F0 sc44 (fun ds d ⟨n, o, q, e, _⟩ => by rw [e]; rfl) fun cdv A outer s H0 E ds d ex hr hC D hD hN => ?_
  obtain ⟨n, o, c, rfl, hn, hc, hb, rfl⟩ := hC
  refine sd_new 2 sc44.nd rfl (.inl rfl) fun fo => ?_
  refine sd_for (n := n) (xd := fun i => dO (o i)) (fun _ => [.dat (dOs n o), .dat (.int c), .val (.ref fo), .non]) _
    (fun i => LB ex H0 fo ((List.range i).map fun k => dO ((o k).map (c * ·)))) PassesOwn.never rfl ro_lb (fun _ => ro_lb) ((iv_list (pd_var (i := 0) rfl (.inl rfl) rfl)).congr ?_ (fun i hi => ?_))
    (gfr_name 3 sc44.nd rfl (.inl rfl)) (less_refl _) (fun _ h => h) (fun k hk Hb => ?_) ?_
  · rw [List.length_map, List.length_range]
  · rw [List.length_map, List.length_range] at hi
    rw [range_getD hi]
  · refine sd_if (ro_lb.base Hb) (b := (o k).isNone) ((td_isN (pd_var (i := 3) rfl (.inl rfl) rfl)).to (isNone_O _)) (fun hx => ?_) (fun hx => ?_)
    · obtain ho : o k = none := Option.isNone_iff_eq_none.mp hx
      refine sd_app (R' := fun H => Ex (era (fo :: ex) Hb) (era (fo :: ex) H) ∧ LB ex H0 fo ((List.range (k + 1)).map fun k => dO ((o k).map (c * ·))) H) (i := 2) (d := dO ((o k).map (c * ·))) (ro_lb.base Hb) (fun H q => lb_len q ?_) rfl (.inl rfl) rfl ?_ rfl (fun H acc v q h1 h2 => ?_) ?_
        (fun te h => pe_bm PySem.F.plainAttrs_list PySem.F.slot_list_append PySem.F.type_list_append mt_append (pe_var (i := 2) rfl (.inl rfl)) (pa_cons h pa_nil))
      · rw [List.length_map, List.length_range]; omega
      · exact pd_none.to (by rw [ho]; rfl)
      · have h := lb_push q h1 h2
        rw [List.range_succ, List.map_append]
        exact h
      · refine sd_nil fun σ H E' q => ?_
        refine ws_of pss_nil ⟨E'.less (less_by rfl fun i hi => by
          match i, hi with
          | 0, _ => exact .inr rfl
          | 1, _ => exact .inr rfl
          | 2, _ => exact .inr rfl
          | 3, _ => exact .inl rfl), q⟩
    · obtain ⟨r, ho⟩ : ∃ r, o k = some r := by
        cases h : o k with
        | none => rw [h] at hx; cases hx
        | some r => exact ⟨r, rfl⟩
      have b1 := hb k r hk ho
      have er : dO (o k) = dF r := by rw [ho]; rfl
      have dpos := r.den_pos
      refine sd_app (R' := fun H => Ex (era (fo :: ex) Hb) (era (fo :: ex) H) ∧ LB ex H0 fo ((List.range (k + 1)).map fun k => dO ((o k).map (c * ·))) H) (i := 2) (d := dO ((o k).map (c * ·))) (ro_lb.base Hb) (fun H q => lb_len q ?_) rfl (.inl rfl) rfl ?_ rfl (fun H acc v q h1 h2 => ?_) ?_
        (fun te h => pe_bm PySem.F.plainAttrs_list PySem.F.slot_list_append PySem.F.type_list_append mt_append (pe_var (i := 2) rfl (.inl rfl)) (pa_cons h pa_nil))
      · rw [List.length_map, List.length_range]; omega
      · refine (pd_call dL (hr.mono (by decide)) (by rfl) (ad_cons (pd_mul (pd_ixT ((pd_var (i := 3) rfl (.inl rfl) rfl).to er) pd_int ix0) (pd_var (i := 1) rfl (.inl rfl) rfl) (wide_mul b1.1 hc (by decide) (by decide) (by decide))) (ad_cons (pd_ixT ((pd_var (i := 3) rfl (.inl rfl) rfl).to er) pd_int ix1) ad_nil))
          ⟨_, _, rfl, by omega, ?_, rfl⟩).to (by rw [ho, rat_smul]; rfl)
        exact Nat.lt_trans (show (r.den : Int).natAbs < 2 ^ 4000 from b1.2) (by decide +kernel)
      · have h := lb_push q h1 h2
        rw [List.range_succ, List.map_append]
        exact h
      · refine sd_nil fun σ H E' q => ?_
        refine ws_of pss_nil ⟨E'.less (less_by rfl fun i hi => by
          match i, hi with
          | 0, _ => exact .inr rfl
          | 1, _ => exact .inr rfl
          | 2, _ => exact .inr rfl
          | 3, _ => exact .inl rfl), q⟩
  · refine sd_done 2 rfl ?_
    exact sd_ret ro_p (pd_var (i := 2) rfl (.inl rfl) rfl) hD
end
end Cv

namespace Cv
open PySem PySem.Spec PyProof.Rows L2
open Evl (Ex)
def cYes (ds : List PyData) (d : PyData) : Prop := ∃ (l : List Int) (y : Nat), ds = [dS l, .int (y : Int)] ∧ Good l y ∧ d = .bool true
theorem range_drop_take {α : Type} (f : Nat → α) (n a m : Nat) (h : a + m ≤ n) : (((List.range n).map f).drop a).take m = (List.range m).map fun j => f (a + j) := by
  refine List.ext_getElem (by simp; omega) fun i h1 h2 => ?_
  simp
theorem cut_range (f : Nat → PyData) (n a b : Nat) (hb : b ≤ n) (hab : a ≤ b) : cutD ((List.range n).map f) (some (a : Int)) (some (b : Int)) = (List.range (b - a)).map fun j => f (a + j) := by
  rw [cutD_nat _ a b (by rw [List.length_map, List.length_range]; exact hb) hab, range_drop_take f n a (b - a) (by omega)]
theorem range_rev {α : Type} (f : Nat → α) (n : Nat) : ((List.range n).map f).reverse = (List.range n).map fun i => f (n - 1 - i) := by
  refine List.ext_getElem (by simp) fun i h1 h2 => ?_
  simp
theorem getD_rev {l : List Int} {i : Nat} (h : i < l.length) : l.reverse.getD i 0 = l.getD (l.length - 1 - i) 0 := by
  rw [List.getD_eq_getElem?_getD, List.getD_eq_getElem?_getD, List.getElem?_reverse h]
theorem sF_rev {l : List Int} {i : Nat} (h : i < l.length) : sF l.reverse i = sF l (l.length - 1 - i) := by
  unfold sF
  rw [getD_rev h]
theorem Good.rev {l : List Int} {y : Nat} (g : Good l y) : Good l.reverse y := ⟨g.y2, g.y12, by rw [List.length_reverse]; exact g.two, by rw [List.length_reverse]; exact g.most, fun x hx => g.small x (List.mem_reverse.mp hx)⟩
theorem means_rev {l : List Int} {y : Nat} (g : Good l y) : dOs l.reverse.length (meanO l.reverse y) = dOs l.length (fun i => meanO l y (l.length - 1 - i)) := by
  rw [List.length_reverse]
  refine dOs_congr fun i hi => ?_
  unfold meanO
  rw [List.length_reverse, valid_rev hi]
  by_cases hv : valid l.length y i = true
  · rw [if_pos hv, if_pos hv]
    obtain ⟨h1, h2⟩ := valid_iff.mp hv
    rw [← M_rev (sF l) i h1 h2]
    congr 1
    exact M_congr h1 fun j hj => sF_rev (by omega)
  · rw [if_neg hv, if_neg hv]
theorem seas_revl {l : List Int} {y m : Nat} (g : Good l y) (hm : l.length = m * y) : dFs y (seas l.reverse.length y (sF l.reverse)) = dFs y (fun k => seas l.length y (sF l) (y - 1 - k)) := by
  refine dFs_congr fun k hk => ?_
  have g1 := g.y2
  have g3 := g.two
  have hm0 : 0 < m := by
    rcases Nat.eq_zero_or_pos m with h | h
    · rw [h] at hm; omega
    · exact h
  rw [List.length_reverse, hm, ← seas_rev g1 hk hm0 (sF l)]
  exact seas_congr hk fun i hi => by
    rw [← hm] at hi ⊢
    exact sF_rev hi
theorem sc45 : FnScope ["_law_series", "_law_year", "_law_smooth", "_law_at", "_law_waves"] ["_law_series", "_law_year"] (defScope (topS 45)) := ⟨rfl, rfl, rfl, by decide +kernel, rfl, by decide +kernel, by decide +kernel⟩
theorem sc47 : FnScope ["_law_series", "_law_year", "_law_whole", "_law_about"] ["_law_series", "_law_year"] (defScope (topS 47)) := ⟨rfl, rfl, rfl, by decide +kernel, rfl, by decide +kernel, by decide +kernel⟩
section
variable {P : Program} {w : World} {K : PySem.W.Frag} {mg : Str → Option Value} {base : Heap}
theorem ok45 {f : Addr} {fd : FuncData} (F0 : Fun K "_law_sums_right" "_law_sums_right" (topS 45) f fd) (m : Mg mg) (dA : Dn P w K mg base "adjusted" 7 ["series", "year"] (spD cAdjL)) (dSu : Dn P w K mg base "_law_sum" 3 ["_law_some"] (spD cSum))
    (dSe : Dn P w K mg base "seasons" 6 ["series", "year"] (spD cSL)) (dJ : Dn P w K mg base "seasons_judged" 6 ["series", "year", "thing"] (spD cJudged)) (dY : Dn P w K mg base "year_sums" 4 ["series", "year"] (spD cYS)) : FnOk P w K mg base CX0 8 f fd ["_law_series", "_law_year"] (spD cYes) := by
  refine ok_body F0 sc45 (fun ds d ⟨a, b, e, _⟩ => by rw [e]; rfl) fun cdv A outer s H0 E ds d ex hr hC D hD hN => ?_
  obtain ⟨l, y, rfl, g, rfl⟩ := hC
  have g1 := g.y2
  have g2 := g.y12
  have g3 := g.two
  have g4 := g.most
  have S := g.ser
  refine sd_set 2 ro_p sc45.nd rfl (.inl rfl) (pd_call dA (hr.mono (by decide)) (by rfl) (ad_cons (pd_var (i := 0) rfl (.inr (.inl rfl)) rfl) (ad_cons (pd_var (i := 1) rfl (.inr (.inl rfl)) rfl) ad_nil)) ⟨l, y, rfl, g, rfl⟩) ?_
  refine sd_for (n := l.length - y + 1) (xd := fun i => .int (i : Nat)) (fun _ => [.dat (dS l), .dat (.int (y : Int)), .dat (dFs l.length (adj l.length y (sF l))), .non, .non]) _ (fun _ => RP ex H0) PassesOwn.never rfl ro_p (fun _ => ro_p)
    ((iv_range1 (by rfl) m.range (pd_add (pd_sub (pd_len (by rfl) m.len (pd_var (i := 0) rfl (.inr (.inl rfl)) rfl)) (pd_var (i := 1) rfl (.inr (.inl rfl)) rfl)) pd_int) (by rw [List.length_map]; omega)).congr (by rw [List.length_map]; omega) fun _ _ => rfl) (gfr_name 3 sc45.nd rfl (.inl rfl)) (less_refl _) (fun _ h => h) (fun a ha Hb => ?_) ?_
  · have hay : a + y ≤ l.length := by omega
    have ec : (a : Int) + (y : Int) = ((a + y : Nat) : Int) := by omega
    have e1 : cutD ((List.range l.length).map fun i => dF (adj l.length y (sF l) i)) (some (a : Int)) (some ((a + y : Nat) : Int)) = ((List.range y).map fun j => adj l.length y (sF l) (a + j)).map dF := by
      rw [cut_range _ _ _ _ hay (by omega), Nat.add_sub_cancel_left, List.map_map]
      rfl
    have e2 : cutD (l.map PyData.int) (some (a : Int)) (some ((a + y : Nat) : Int)) = ((l.drop a).take y).map PyData.int := by
      rw [cut_ints _ _ _ hay (by omega), Nat.add_sub_cancel_left]
    refine sd_skip (ro_p.base Hb) (td_ne_same hr.units (pd_call dSu (hr.mono (by decide)) (by rfl) (ad_cons ((pd_slice (pd_var (i := 2) rfl (.inl rfl) rfl) (od_some (pd_var (i := 3) rfl (.inl rfl) rfl)) (od_some ((pd_add (pd_var (i := 3) rfl (.inl rfl) rfl) (pd_var (i := 1) rfl (.inr (.inl rfl)) rfl)).to (congrArg PyData.int ec)))).to (congrArg PyData.list e1)) ad_nil)
        ⟨_, rfl, S.sms (b := BB + BB) (fun q hq => ?_) (by omega) ?_, rfl⟩)
      ((pd_tup (ad_cons (pd_sum rfl (by rfl) m.sum ((pd_slice (pd_var (i := 0) rfl (.inr (.inl rfl)) rfl) (od_some (pd_var (i := 3) rfl (.inl rfl) rfl)) (od_some ((pd_add (pd_var (i := 3) rfl (.inl rfl) rfl) (pd_var (i := 1) rfl (.inr (.inl rfl)) rfl)).to (congrArg PyData.int ec)))).to (congrArg PyData.list e2))) (ad_cons pd_int ad_nil))).to ?_) (shp_F _)) ?_
    · obtain ⟨j, hj, rfl⟩ := List.mem_map.mp hq
      exact S.c_adj _
    · rw [List.length_map, List.length_range]
      omega
    · rw [dF_int, sum_cut l a y hay]
      exact congrArg dF (adj_window (by omega) (sF l) a).symm
    · exact sd_nil fun σ H E' q => ⟨E'.less (less_by rfl fun i hi => by
        match i, hi with
        | 0, _ => exact .inr rfl
        | 1, _ => exact .inr rfl
        | 2, _ => exact .inr rfl
        | 3, _ => exact .inl rfl
        | 4, _ => exact .inl rfl), q⟩
  · refine sd_set 4 ro_p sc45.nd rfl (.inl rfl) (pd_call dSe (hr.mono (by decide)) (by rfl) (ad_cons (pd_var (i := 0) rfl (.inr (.inl rfl)) rfl) (ad_cons (pd_var (i := 1) rfl (.inr (.inl rfl)) rfl) ad_nil)) ⟨l, y, rfl, g, rfl⟩) ?_
    have hsm : SmS ((List.range y).map (seas l.length y (sF l))) := S.sms (b := BB) (fun q hq => by
      obtain ⟨k, hk, rfl⟩ := List.mem_map.mp hq
      exact (S.c_seas (List.mem_range.mp hk)).up two801) (by omega) (by rw [List.length_map, List.length_range]; omega)
    have hz : PyData.tuple [.int 0, .int 1] = dF ((List.range y).map (seas l.length y (sF l))).sum := by
      have h := seas_sum (N := l.length) (y := y) (by omega) (sF l)
      unfold qsum at h
      rw [h]
      rfl
    refine sd_skip ro_p ((tw_or (x := false) (y := false) (td_ne_same hr.units (pd_call dSu (hr.mono (by decide)) (by rfl) (ad_cons ((pd_var (i := 4) rfl (.inl rfl) rfl).to (seasD_map l y)) ad_nil) ⟨_, rfl, hsm, rfl⟩) ((pd_tup (ad_cons pd_int (ad_cons pd_int ad_nil))).to hz) (shp_F _)) fun _ =>
      tw_or1 ((td_notN (pd_call dJ (hr.mono (by decide)) (by rfl) (ad_cons (pd_var (i := 0) rfl (.inr (.inl rfl)) rfl) (ad_cons (pd_var (i := 1) rfl (.inr (.inl rfl)) rfl) (ad_cons (pd_var (i := 4) rfl (.inl rfl) rfl) ad_nil))) ⟨l, y, rfl, g, rfl⟩)).to rfl)).td) ?_
    refine sd_ret ro_p (pd_eq_same hr.units (pd_call dY (hr.mono (by decide)) (by rfl) (ad_cons (pd_var (i := 0) rfl (.inr (.inl rfl)) rfl) (ad_cons (pd_var (i := 1) rfl (.inr (.inl rfl)) rfl) ad_nil)) ⟨l, y, rfl, g, rfl⟩)
      ((pd_lc rfl sc45.nd (lc_one (j := 3) (n := l.length / y) (yd := fun t => .int (((l.drop (t * y)).take y).sum)) (blkOk_by (N := ["_law_series", "_law_year", "_law_smooth", "_law_at", "_law_waves"]) (sc := defScope (topS 45)) (by decide +kernel))
      (iv_range3 (lo := 0) (by rfl) m.range pd_int (pd_add (pd_sub (pd_len (by rfl) m.len (pd_var (i := 0) rfl (.inr (.inl rfl)) rfl)) (pd_var (i := 1) rfl (.inr (.inl rfl)) rfl)) pd_int) (pd_var (i := 1) rfl (.inr (.inl rfl)) rfl) ?_) (Nat.le_trans (Nat.div_le_self _ _) (by omega)) (fun _ _ _ _ _ => pg_name sc45.nd rfl (.inl rfl)) fun t ht Dl s' H' C cl fp => ?_)).to ?_) (shp_Is _)) hD
    · rw [List.length_map, show (l.length : Int) - (y : Int) + 1 = ((l.length - y + 1 : Nat) : Int) by omega]
      exact rgC_pos (a := 0) (by omega) (by omega) (by omega) (by omega) (by rw [show l.length - y + 1 - 0 + y - 1 = l.length by omega])
    · have h1 : (t + 1) * y ≤ l.length := Nat.le_trans (Nat.mul_le_mul_right y ht) (Nat.div_mul_le_self _ _)
      rw [Nat.succ_mul] at h1
      have e : (0 : Int) + (t : Nat) * (y : Int) = ((t * y : Nat) : Int) := by rw [Int.natCast_mul]; omega
      rw [e]
      refine pd_sum rfl (by rfl) m.sum ((pd_slice (pd_var (i := 0) rfl (.inr (.inl rfl)) rfl) (od_some (pd_var (i := 3) rfl (.inl rfl) rfl)) (od_some (pd_add (pd_var (i := 3) rfl (.inl rfl) rfl) (pd_var (i := 1) rfl (.inr (.inl rfl)) rfl)))).to (congrArg PyData.list ?_))
      rw [show ((t * y : Nat) : Int) + (y : Int) = ((t * y + y : Nat) : Int) by omega, cut_ints _ _ _ h1 (by omega), Nat.add_sub_cancel_left]
    · show _ = PyData.list ((ysums l y).map PyData.int)
      unfold ysums
      rw [List.map_map]
      rfl
theorem ok47 {f : Addr} {fd : FuncData} (F0 : Fun K "_law_about_right" "_law_about_right" (topS 47) f fd) (m : Mg mg) (dTr : Dn P w K mg base "trend" 5 ["series", "year"] (spD cMeans))
    (dSe : Dn P w K mg base "seasons" 6 ["series", "year"] (spD cSL)) : FnOk P w K mg base CX0 7 f fd ["_law_series", "_law_year"] (spD cYes) := by
  refine ok_body F0 sc47 (fun ds d ⟨a, b, e, _⟩ => by rw [e]; rfl) fun cdv A outer s H0 E ds d ex hr hC D hD hN => ?_
  obtain ⟨l, y, rfl, g, rfl⟩ := hC
  have g1 := g.y2
  have g2 := g.y12
  have g3 := g.two
  have g4 := g.most
  have hle : l.length / y * y ≤ l.length := Nat.div_mul_le_self _ _
  have hm2 : 2 ≤ l.length / y := (Nat.le_div_iff_mul_le (by omega)).mpr g3
  obtain ⟨wl, hwl⟩ : ∃ wl, wl = l.take (l.length / y * y) := ⟨_, rfl⟩
  have hw : wl.length = l.length / y * y := by rw [hwl, List.length_take]; omega
  have G : Good wl y := ⟨g1, g2, by rw [hw]; exact Nat.mul_le_mul_right y hm2, by omega, fun x hx => g.small x (by rw [hwl] at hx; exact List.mem_of_mem_take hx)⟩
  have e0 : (l.length : Int) - (l.length : Int) % (y : Int) = ((l.length / y * y : Nat) : Int) := by
    have h := Nat.div_add_mod l.length y
    rw [Nat.mul_comm] at h
    rw [modc]
    omega
  refine sd_set 2 ro_p sc47.nd rfl (.inl rfl) (d := dS wl) ((pd_slice (pd_var (i := 0) rfl (.inl rfl) rfl) od_none (od_some ((pd_sub (pd_len (by rfl) m.len (pd_var (i := 0) rfl (.inl rfl) rfl)) (pd_mod (pd_len (by rfl) m.len (pd_var (i := 0) rfl (.inl rfl) rfl)) (pd_var (i := 1) rfl (.inl rfl) rfl) (by omega))).to (d1 := .int ((l.length / y * y : Nat) : Int)) ?_))).to (congrArg PyData.list ?_)) ?_
  · rw [List.length_map, e0]
  · unfold cutD
    rw [HT.sIx_nat, List.length_map, Nat.min_eq_left hle]
    show ((l.map PyData.int).drop 0).take (l.length / y * y - 0) = wl.map PyData.int
    rw [List.drop_zero, Nat.sub_zero, hwl, List.map_take]
  refine sd_set 3 ro_p sc47.nd rfl (.inl rfl) (d := dS wl.reverse) ((pd_rev (pd_var (i := 2) rfl (.inl rfl) rfl)).to (by rw [← List.map_reverse])) ?_
  refine sd_skip ro_p (td_ne_same hr.units ((pd_call dTr (hr.mono (by decide)) (by rfl) (ad_cons (pd_var (i := 3) rfl (.inl rfl) rfl) (ad_cons (pd_var (i := 1) rfl (.inl rfl) rfl) ad_nil)) ⟨wl.reverse, y, rfl, G.rev, rfl⟩).to (means_rev G))
    ((pd_rev (pd_call dTr (hr.mono (by decide)) (by rfl) (ad_cons (pd_var (i := 2) rfl (.inl rfl) rfl) (ad_cons (pd_var (i := 1) rfl (.inl rfl) rfl) ad_nil)) ⟨wl, y, rfl, G, rfl⟩)).to ?_) (shp_os _ _)) ?_
  · rw [range_rev]
    rfl
  refine sd_ret ro_p (pd_eq_same hr.units ((pd_call dSe (hr.mono (by decide)) (by rfl) (ad_cons (pd_var (i := 3) rfl (.inl rfl) rfl) (ad_cons (pd_var (i := 1) rfl (.inl rfl) rfl) ad_nil)) ⟨wl.reverse, y, rfl, G.rev, rfl⟩).to (seas_revl G hw))
    ((pd_rev (pd_call dSe (hr.mono (by decide)) (by rfl) (ad_cons (pd_var (i := 2) rfl (.inl rfl) rfl) (ad_cons (pd_var (i := 1) rfl (.inl rfl) rfl) ad_nil)) ⟨wl, y, rfl, G, rfl⟩)).to ?_) (shp_fs _ _)) hD
  rw [range_rev]
  rfl
end
end Cv

namespace Cv
open PySem PySem.Spec PyProof.Rows L2
open Evl (Ex)
/-! ### the purse: p holds [cells, w], c the cells -/
structure PInv (p c : Addr) (n : Nat) (H : Hp) : Prop where
  ne : p ≠ c
  st : ∃ (cells : List Int) (wt : Nat), H p = some (.lst [.ref c, .int (wt : Int)]) ∧ H c = some (.lst (cells.map V.int)) ∧ 1 ≤ cells.length ∧ (∀ x ∈ cells, 0 ≤ x) ∧ wt ≤ n
theorem PInv.al {p c : Addr} {n : Nat} {H : Hp} (h : PInv p c n H) : Al [p, c] H := fun a ha z => by
  obtain ⟨cells, wt, h1, h2, _⟩ := h.st
  simp only [List.mem_cons, List.not_mem_nil, or_false] at ha
  rcases ha with e | e
  · rw [e, h1] at z; cases z
  · rw [e, h2] at z; cases z
theorem PInv.up {p c : Addr} {n : Nat} {H H' : Hp} (h : PInv p c n H) (e : Ex H H') : PInv p c n H' := by
  obtain ⟨cells, wt, h1, h2, h3⟩ := h.st
  exact ⟨h.ne, cells, wt, e _ _ h1, e _ _ h2, h3⟩
theorem PInv.le {p c : Addr} {n m : Nat} {H : Hp} (h : PInv p c n H) (l : n ≤ m) : PInv p c m H := by
  obtain ⟨cells, wt, h1, h2, h3, h4, h5⟩ := h.st
  exact ⟨h.ne, cells, wt, h1, h2, h3, h4, Nat.le_trans h5 l⟩
theorem PInv.inj {p c c' : Addr} {n m : Nat} {H : Hp} (h : PInv p c n H) (g : PInv p c' m H) : c = c' := by
  obtain ⟨cells, wt, h1, _⟩ := h.st
  obtain ⟨cells', wt', g1, _⟩ := g.st
  rw [h1] at g1
  cases g1
  rfl
theorem era_sub {s t : List Addr} {H H' : Hp} (h : ∀ a ∈ s, a ∈ t) (e : Ex (era s H) (era s H')) : Ex (era t H) (era t H') := fun a o ha => by
  obtain ⟨h1, h2⟩ := era_some ha
  have h3 : a ∉ s := fun z => h1 (h a z)
  have h4 := e a o (by rw [era_at h3]; exact h2)
  rw [era_at h1]
  exact (era_some h4).2
theorem era_less {s t : List Addr} {H : Hp} (h : ∀ a ∈ s, a ∈ t) : Ex (era t H) (era s H) := fun a o ha => by
  obtain ⟨h1, h2⟩ := era_some ha
  rw [era_at (fun z => h1 (h a z))]
  exact h2
theorem envOk_startP {H : Hp} {N : List Str} {p : Addr} {vs : List V} {ds : List PyData} (h : DqA H vs ds) : EnvOk H (L2.start N (.ref p :: vs)) (.val (.ref p) :: ds.map Sl.dat ++ List.replicate (N.length - (ds.length + 1)) Sl.non) := by
  have hl := h.len
  refine ⟨by unfold L2.start; simp [hl], fun i s o h1 h2 => ?_⟩
  unfold L2.start at h2
  cases i with
  | zero =>
    rw [List.cons_append, List.getElem?_cons_zero] at h1
    rw [List.map_cons, List.cons_append, List.getElem?_cons_zero] at h2
    cases h1
    cases h2
    rfl
  | succ i =>
    rw [List.cons_append, List.getElem?_cons_succ] at h1
    rw [List.map_cons, List.cons_append, List.getElem?_cons_succ] at h2
    by_cases hi : i < ds.length
    · have hi' : i < vs.length := by omega
      rw [List.getElem?_append_left (by simpa using hi), List.getElem?_map, List.getElem?_eq_getElem hi] at h1
      rw [List.getElem?_append_left (by simpa using hi'), List.getElem?_map, List.getElem?_eq_getElem hi'] at h2
      cases h1; cases h2
      obtain ⟨v, e, q⟩ := h.get (List.getElem?_eq_getElem hi)
      rw [List.getElem?_eq_getElem hi'] at e
      cases e
      exact q
    · rw [List.getElem?_append_right (by simpa using Nat.le_of_not_lt hi)] at h1
      have := (List.getElem?_eq_some_iff.mp h1)
      obtain ⟨h3, h4⟩ := this
      rw [List.getElem_replicate] at h4
      subst h4
      trivial
theorem ixN_at {n j : Nat} (hj : j < n) : ixN n (j : Int) = some j := by
  unfold ixN
  rw [if_pos (by omega), if_pos (by omega)]
  simp
def spDraw : Sp := fun vs H Q _ => ∃ (p c : Addr) (n : Nat) (m : Int), vs = [.ref p, .int m] ∧ PInv p c n H ∧ n ≤ 10 ^ 6 ∧ 0 < m ∧ m ≤ 10 ^ 9 ∧ ∀ (r : Int) (H2 : Hp), 0 ≤ r → r < m → Ex (era [p, c] H) (era [p, c] H2) → PInv p c (n + 1) H2 → Q (.int r) H2
theorem sc36 : FnScope ["_law_purse_here", "_law_out_of", "_law_cells", "_law_went", "_law_where", "_law_cell", "_law_num", "_law_other"] ["_law_purse_here", "_law_out_of"] (defScope (topS 36)) := ⟨rfl, rfl, rfl, by decide +kernel, rfl, by decide +kernel, by decide +kernel⟩
theorem small_mul {i j : Int} (hi : i.natAbs < 2 ^ 64) (hj : j.natAbs < 2 ^ 64) : CMulW i j := wide_mul hi hj (by decide) (by decide) (by decide)
theorem mod_rng (a : Int) {m : Int} (hm : 0 < m) : 0 ≤ a % m ∧ a % m < m := ⟨Int.emod_nonneg _ (by omega), Int.emod_lt_of_pos _ hm⟩
/-- ints alone are known: any era will do -/
theorem EnvOk.ints {H H' : Hp} {σ : L2.St} {Γ Γ' : List Sl} (h : EnvOk H σ Γ) (hs : ∀ (i : Nat) (s : Sl), Γ'[i]? = some s → s = .non ∨ (∃ v, s = .val v) ∨ ∃ k, s = .dat (.int k)) (e : Γ = Γ' := by rfl) : EnvOk H' σ Γ' := by
  subst e
  refine ⟨h.1, fun i s o h1 h2 => ?_⟩
  have g := h.2 i s o h1 h2
  rcases hs i s h1 with e | ⟨v, e⟩ | ⟨k, e⟩
  · subst e; cases o <;> trivial
  · subst e; cases o <;> exact g
  · subst e
    cases o with
    | none => exact g
    | some v =>
      have g' : Dq H v (.int k) := g
      rw [g'.inti]
      exact .int k
theorem PD.run {X : Cx} {ex : List Addr} {Γ : List Sl} {e : Expr} {d : PyData} {σ : L2.St} {H : Hp} {Q : VK} (E : EnvOk (era ex H) σ Γ) (A : Al ex H) (h : PD X ex Γ e d) (q : ∀ v H2, Ex H H2 → Dq (era ex H2) v d → Q v H2) : WE X e σ H Q := h σ H E A Q q
theorem TD.run {X : Cx} {ex : List Addr} {Γ : List Sl} {e : Expr} {b : Bool} {σ : L2.St} {H : Hp} {Q : Bool → Hp → Prop} (E : EnvOk (era ex H) σ Γ) (A : Al ex H) (h : TD X ex Γ e b) (q : ∀ H2, Ex H H2 → Q b H2) : WT X e σ H Q := h σ H E A Q q
/-- a slot's value is data just now -/
theorem EnvOk.asD {H : Hp} {σ : L2.St} {Γ : List Sl} {j : Nat} {u : V} {d : PyData} (E : EnvOk H σ Γ) (g : Γ[j]? = some (.val u)) (hv : Dq H u d) : EnvOk H σ (Γ.set j (.dat d)) := by
  have hσ := E.val g
  have hset : σ.set j (some u) = σ := by
    obtain ⟨h1, h2⟩ := List.getElem?_eq_some_iff.mp hσ
    rw [← h2]
    exact List.set_getElem_self h1
  have E2 := E.setD (i := j) hv
  rw [hset] at E2
  exact E2
theorem sd_setVal {X : Cx} {ex : List Addr} {R : Hp → Prop} {D : Ends} {Γ : List Sl} {e : Expr} {pos : Pos} {d d0 : PyData} {u : V} {rest : List Stmt} (i j : Nat) {x : Str} {p : Pos} (g : Γ[j]? = some (.val u)) (hv : ∀ H, R H → Dq (era ex H) u d0) (hR : RO ex R) (hN : X.N.Nodup) (hi : X.N[i]? = some x) (hx : Loc X.env.scope x)
    (he : PD X ex (Γ.set j (.dat d0)) e d) (k : SD X ex R D (Γ.set i (.dat d)) rest)
    (hs : swapsWith e (some (.Name x p)) pos.line X.env = pure false := by rfl) (hf : X.fn x = true ∨ X.env.scope.names.lookup x = some .local := by first | exact .inl rfl | exact .inr rfl | assumption) :
    SD X ex R D Γ (.Assign [.Name x p] e pos :: rest) := fun σ H E q => by
  refine ws_cons (ps_set hN hi hx pe_w hs hf) ?_
  refine he σ H (E.asD g (hv H q)) (hR.al H q) _ fun v H1 e1 h1 => ?_
  exact k _ H1 ((E.up (era_ex e1)).setD h1) (hR.up H H1 q e1)
section
variable {P : Program} {w : World} {K : PySem.W.Frag} {mg : Str → Option Value} {base : Heap}
theorem ok_bodyP {x qual : Str} {st : Stmt} {f : Addr} {fd : FuncData} {N ps : List Str} {k : Nat} {sp : Sp} (F : Fun K x qual st f fd) (S : FnScope N ps (defScope st)) (hl : ∀ vs H Q E, sp vs H Q E → vs.length = ps.length)
    (body : ∀ (cdv : Value) (A : Around) (outer : List Env) (s : Shared) (H : Hp) (E : XK) (vs : List V) (Q : VK), Room k (A.deeper (envOfC qual (defScope st) s.heap.objs.size f cdv)) → sp vs H Q E →
      WS (CB P w K mg base N qual st f cdv A outer s H E) (defBody st) ⟨fun _ H' => Q .non H', Q, fun _ _ => False, fun _ _ => False⟩ (L2.start N vs) H) : FnOk P w K mg base CX0 (k + 1) f fd ps sp := by
  refine F.ok S hl (fun cdv A outer s H vs Q E hr h => ?_)
  exact ⟨_, pss_w, body cdv A outer s H E vs Q hr h⟩
theorem ok36 {f : Addr} {fd : FuncData} (F0 : Fun K "_law_draw" "_law_draw" (topS 36) f fd) (m : Mg mg) : FnOk P w K mg base CX0 1 f fd ["_law_purse_here", "_law_out_of"] spDraw := by
  refine ok_bodyP F0 sc36 (fun vs H Q E ⟨p, c, n, m', e, _⟩ => by rw [e]; rfl) fun cdv A outer s H E vs Q hr h => ?_
  obtain ⟨p, c, n, k, rfl, I, hn, hk0, hk9, q⟩ := h
  obtain ⟨hpc, cells, wt, hp, hc, hl1, hpos, hwt⟩ := I
  have E0 : EnvOk (era [p] H) (L2.start ["_law_purse_here", "_law_out_of", "_law_cells", "_law_went", "_law_where", "_law_cell", "_law_num", "_law_other"] [.ref p, .int k]) [.val (.ref p), .dat (.int k), .non, .non, .non, .non, .non, .non] := envOk_startP (.cons (.int k) .nil)
  have hcd : ∀ H' : Hp, H' c = some (.lst (cells.map V.int)) → Dq (era [p] H') (.ref c) (dS cells) := fun H' h => .lst (by rw [era_at (by simpa using Ne.symm hpc)]; exact h) (DqA.of_ints cells)
  refine ws_cons (ps_asg (pe_var (i := 0) rfl (.inl rfl)) (pg_unl rfl (pgs_cons (pg_name (i := 2) sc36.nd rfl (.inl rfl)) (pgs_cons (pg_name (i := 3) sc36.nd rfl (.inl rfl)) pgs_nil)))) ?_
  refine ⟨.ref p, E0.val rfl, p, _, rfl, SqL.of hp, rfl, _, _, rfl, _, _, rfl, rfl, ?_⟩
  have E1 := (E0.setV (i := 2) (v := .ref c)).setD (i := 3) (.int (wt : Int))
  refine (?_ : SD _ [p] (fun H' => H' p = some (.lst [.ref c, .int (wt : Int)]) ∧ H' c = some (.lst (cells.map V.int)) ∧ Ex H H') _ [.val (.ref p), .dat (.int k), .val (.ref c), .dat (.int (wt : Int)), .non, .non, .non, .non] _) _ H E1 ⟨hp, hc, Evl.Ex.refl H⟩
  have R1 : RO [p] (fun H' => H' p = some (.lst [.ref c, .int (wt : Int)]) ∧ H' c = some (.lst (cells.map V.int)) ∧ Ex H H') := ⟨fun H1 H2 ⟨a, b, d⟩ e => ⟨e _ _ a, e _ _ b, d.trans e⟩, fun H1 ⟨a, b, d⟩ a' ha z => by
    rw [List.mem_singleton.mp ha, a] at z
    cases z⟩
  have hlt : wt % cells.length < cells.length := Nat.mod_lt _ hl1
  have hcell : 0 ≤ cells.getD (wt % cells.length) 0 := by
    rw [List.getD_eq_getElem?_getD, List.getElem?_eq_getElem hlt]
    exact hpos _ (List.getElem_mem hlt)
  refine sd_setVal 4 2 rfl (fun H' h => hcd H' h.2.1) R1 sc36.nd rfl (.inl rfl) (d := .int ((wt % cells.length : Nat) : Int)) ((pd_mod (pd_var (i := 3) rfl (.inl rfl) rfl) (pd_len (by rfl) m.len (pd_var (i := 2) rfl (.inl rfl) rfl)) (by rw [List.length_map]; omega)).to (by rw [List.length_map, modc])) ?_
  refine sd_setVal 5 2 rfl (fun H' h => hcd H' h.2.1) R1 sc36.nd rfl (.inl rfl) (pd_ixL (pd_var (i := 2) rfl (.inl rfl) rfl) (pd_var (i := 4) rfl (.inl rfl) rfl) (list_at hlt)) ?_
  generalize hx : cells.getD (wt % cells.length) 0 = x at hcell
  intro σ2 H2 E2 q2
  refine ws_cons (ps_asg pe_w (pg_sub (pe_var (i := 0) rfl (.inl rfl)) pe_int set_list)) ?_
  refine PD.run E2 (R1.al H2 q2) (pd_add (pd_var (i := 3) rfl (.inl rfl) rfl) pd_int) fun v H3 e3 hv => ?_
  obtain ⟨f1, f2, f3⟩ := R1.up _ _ q2 e3
  refine ⟨.ref p, E2.val rfl, p, [.ref c, .int (wt : Int)], 1, 1, rfl, rfl, f1, rfl, ?_⟩
  rw [hv.inti]
  have g1 : upd H3 p (.lst [.ref c, .int ((wt : Int) + 1)]) p = some (.lst [.ref c, .int (((wt + 1 : Nat) : Int))]) := upd_same
  have g2 : upd H3 p (.lst [.ref c, .int ((wt : Int) + 1)]) c = some (.lst (cells.map V.int)) := by rw [upd_ne (Ne.symm hpc)]; exact f2
  have g3 : Ex (era [p, c] H) (era [p, c] (upd H3 p (.lst [.ref c, .int ((wt : Int) + 1)]))) := by
    rw [era_upd List.mem_cons_self]
    exact era_ex f3
  have E4 : EnvOk (era [p, c] (upd H3 p (.lst [.ref c, .int ((wt : Int) + 1)]))) σ2 [.val (.ref p), .dat (.int k), .val (.ref c), .dat (.int (wt : Int)), .dat (.int ((wt % cells.length : Nat) : Int)), .dat (.int x), .non, .non] := by
    rw [era_upd List.mem_cons_self]
    exact (E2.up (era_ex e3)).ints (by
      intro i s hi
      match i, hi with
      | 0, h => cases h; exact .inr (.inl ⟨_, rfl⟩)
      | 1, h => cases h; exact .inr (.inr ⟨_, rfl⟩)
      | 2, h => cases h; exact .inr (.inl ⟨_, rfl⟩)
      | 3, h => cases h; exact .inr (.inr ⟨_, rfl⟩)
      | 4, h => cases h; exact .inr (.inr ⟨_, rfl⟩)
      | 5, h => cases h; exact .inr (.inr ⟨_, rfl⟩)
      | 6, h => cases h; exact .inl rfl
      | 7, h => cases h; exact .inl rfl)
  refine (?_ : SD _ [p, c] (fun H' => H' p = some (.lst [.ref c, .int ((wt + 1 : Nat) : Int)]) ∧ H' c = some (.lst (cells.map V.int)) ∧ Ex (era [p, c] H) (era [p, c] H')) _ [.val (.ref p), .dat (.int k), .val (.ref c), .dat (.int (wt : Int)), .dat (.int ((wt % cells.length : Nat) : Int)), .dat (.int x), .non, .non] _) _ _ E4 ⟨g1, g2, g3⟩
  have R2 : ∀ cs : List Int, RO [p, c] (fun H' => H' p = some (.lst [.ref c, .int ((wt + 1 : Nat) : Int)]) ∧ H' c = some (.lst (cs.map V.int)) ∧ Ex (era [p, c] H) (era [p, c] H')) := fun cs => ⟨fun H1 H2 ⟨a, b, d⟩ e => ⟨e _ _ a, e _ _ b, d.trans (era_ex e)⟩, fun H1 ⟨a, b, d⟩ a' ha z => by
    simp only [List.mem_cons, List.not_mem_nil, or_false] at ha
    rcases ha with e | e
    · rw [e, a] at z; cases z
    · rw [e, b] at z; cases z⟩
  refine sd_if (R2 cells) (td_ge (pd_var (i := 5) rfl (.inl rfl) rfl) (pd_pow (i := 10) (j := 18) pd_int pd_int ⟨by decide, by decide +kernel⟩)) (fun hb => ?_) (fun hb => ?_)
  · have hkx : 0 ≤ x / k := Int.ediv_nonneg hcell (by omega)
    intro σ5 H5 E5 q5
    refine ws_cons (ps_asg pe_w (pg_sub (pe_var (i := 2) rfl (.inl rfl)) (pe_var (i := 4) rfl (.inl rfl)) set_list)) ?_
    refine PD.run E5 ((R2 cells).al H5 q5) (pd_fdiv (pd_var (i := 5) rfl (.inl rfl) rfl) (pd_var (i := 1) rfl (.inl rfl) rfl) ⟨hk0, ?_⟩) fun v H6 e6 hv => ?_
    · exact Nat.lt_trans (show k.natAbs.log2 < 64 from PySem.Flt.log2_lt_of (by decide) (show k.natAbs < 2 ^ 64 by omega)) (by decide)
    obtain ⟨f1, f2, f3⟩ := (R2 cells).up _ _ q5 e6
    obtain ⟨vw, ew, hvw⟩ := E5.dat (i := 4) rfl
    rw [hvw.inti] at ew
    refine ⟨_, E5.val rfl, _, ew, c, cells.map V.int, _, wt % cells.length, rfl, rfl, f2, ixN_at (by rw [List.length_map]; exact hlt), ?_⟩
    rw [hv.inti]
    have e7 : (cells.map V.int).set (wt % cells.length) (V.int (x / k)) = (cells.set (wt % cells.length) (x / k)).map V.int := by rw [List.map_set]
    rw [e7]
    have hmem : p ∈ [p, c] ∧ c ∈ [p, c] := ⟨List.mem_cons_self, List.mem_cons_of_mem _ List.mem_cons_self⟩
    refine sd_ret (R2 (cells.set (wt % cells.length) (x / k))) (pd_mod (pd_var (i := 5) rfl (.inl rfl) rfl) (pd_var (i := 1) rfl (.inl rfl) rfl) hk0) (fun v' H7 q7 hv' => ?_) σ5 _ (by rw [era_upd hmem.2]; exact E5.up (era_ex e6)) ⟨by rw [upd_ne hpc]; exact f1, upd_same, by rw [era_upd hmem.2]; exact f3⟩
    rw [hv'.inti]
    have hm := mod_rng x hk0
    refine q _ H7 hm.1 hm.2 q7.2.2 ⟨hpc, _, wt + 1, q7.1, q7.2.1, by rw [List.length_set]; exact hl1, fun y hy => ?_, by omega⟩
    rcases List.mem_or_eq_of_mem_set hy with h | h
    · exact hpos y h
    · rw [h]; exact hkx
  · have w20 : (wt : Int).natAbs < 2 ^ 64 := by omega
    have h1 := mod_rng x (m := 2147483629) (by decide)
    have h2 : ((wt : Int) * (wt : Int)).natAbs < 2 ^ 64 := by
      rw [Int.natAbs_mul]
      have : (wt : Int).natAbs ≤ 10 ^ 6 := by omega
      exact Nat.lt_of_le_of_lt (Nat.mul_le_mul this this) (by decide)
    refine sd_next (D' := ⟨fun _ H' => Q .non H', Q, fun _ _ => False, fun _ _ => False⟩) ?_
    refine sd_set 6 (R2 cells) sc36.nd rfl (.inl rfl) (pd_mod (pd_add (pd_add (pd_mul (pd_mod (pd_var (i := 5) rfl (.inl rfl) rfl) pd_int (by decide)) pd_int (small_mul (by omega) (by decide))) (pd_mul (pd_mul (pd_var (i := 3) rfl (.inl rfl) rfl) (pd_var (i := 3) rfl (.inl rfl) rfl) (small_mul w20 w20)) pd_int (small_mul h2 (by decide)))) pd_int) pd_int (by decide)) ?_
    generalize (x % 2147483629 * 48271 + (wt : Int) * (wt : Int) * 69621 + 11) = u1
    have k1 := mod_rng u1 (m := 2147483647) (by decide)
    generalize u1 % 2147483647 = v1 at k1
    refine sd_set 6 (R2 cells) sc36.nd rfl (.inl rfl) (pd_mod (pd_mul (pd_var (i := 6) rfl (.inl rfl) rfl) (pd_var (i := 6) rfl (.inl rfl) rfl) (small_mul (by omega) (by omega))) pd_int (by decide)) ?_
    generalize v1 * v1 = u2
    have k2 := mod_rng u2 (m := 2147483629) (by decide)
    generalize u2 % 2147483629 = v2 at k2
    refine sd_set 6 (R2 cells) sc36.nd rfl (.inl rfl) (pd_mod (pd_mul (pd_var (i := 6) rfl (.inl rfl) rfl) (pd_var (i := 6) rfl (.inl rfl) rfl) (small_mul (by omega) (by omega))) pd_int (by decide)) ?_
    generalize v2 * v2 % 2147483587 = v3
    refine sd_skip (R2 cells) ((td_gt (pd_var (i := 1) rfl (.inl rfl) rfl) (pd_pow (i := 10) (j := 9) pd_int pd_int ⟨by decide, by decide +kernel⟩)).to (decide_eq_false (by show ¬ (10 : Int) ^ 9 < k; omega))) ?_
    refine sd_ret (R2 cells) (pd_mod (pd_var (i := 6) rfl (.inl rfl) rfl) (pd_var (i := 1) rfl (.inl rfl) rfl) hk0) (fun v' H7 q7 hv' => ?_)
    rw [hv'.inti]
    have hm := mod_rng v3 hk0
    exact q _ H7 hm.1 hm.2 q7.2.2 ⟨hpc, _, wt + 1, q7.1, q7.2.1, hl1, hpos, by omega⟩
end
end Cv

namespace Cv
open PySem PySem.Spec PyProof.Rows L2
open Evl (Ex)
/-- what is walked, at one place -/
def IVat (X : Cx) (ex : List Addr) (tg iter : Expr) (n : Nat) (xd : Nat → PyData) (σ : L2.St) (H : Hp) : Prop :=
  ∃ wi : TI, PI X tg iter wi ∧ ∀ Rk : It → Hp → Prop,
    (∀ (J : It) (H2 : Hp) (Y : Nat → Hp → V → Hp → Prop), Ex H H2 → Walk J n (fun H' => Ex (era ex H2) (era ex H')) Y →
      (∀ i H' v H'', i < n → Ex (era ex H2) (era ex H') → Y i H' v H'' → Ex H' H'' ∧ ∀ ex', Ex (era ex H2) (era ex' H') → Al ex' H' → Dq (era ex' H'') v (xd i)) → Rk J H2) → wi σ H Rk
theorem era_hide2 {ex : List Addr} {H2 H' : Hp} {D : Addr} (e : Ex (era ex H2) (era ex H')) (h : H2 D = none) : Ex (era ex H2) (era (D :: ex) H') := fun a o ha => by
  obtain ⟨h1, h2⟩ := era_some ha
  have hf : a ≠ D := ne_of_none h2 h
  rw [era_at (by simp only [List.mem_cons, not_or]; exact ⟨hf, h1⟩)]
  exact (era_some (e a o ha)).2
structure LP (ex : List Addr) (H : Hp) (P : Addr → Hp → Nat → List V → Hp → Prop) : Prop where
  zero : ∀ D H2, Ex H H2 → H2 D = none → P D H2 0 [] (upd H2 D (.lst []))
  up : ∀ D H2 i acc H' H'', P D H2 i acc H' → Ex H' H'' → P D H2 i acc H''
  fr : ∀ D H2 i acc H', P D H2 i acc H' → Ex (era ex H2) (era ex H') ∧ Al ex H' ∧ acc.length = i
  put : ∀ D H2 i acc H' o, H2 D = none → Ex H H2 → P D H2 i acc H' → P D H2 i acc (upd H' D o)
theorem lc_gen {X : Cx} {ex : List Addr} {Γ : List Sl} {elt iter : Expr} {scope : Scope} {n : Nat} {xd : Nat → PyData} {x : Str} {tp : Pos} {j : Nat} {P : Addr → Hp → Nat → List V → Hp → Prop} {σ : L2.St} {H : Hp} (hn : n ≤ 50000)
    (hg : GB X scope (.Name x tp) (gName j)) (E : EnvOk (era ex H) σ Γ) (hi : IVat X ex (.Name x tp) iter n xd σ H) (L : LP ex H P)
    (he : ∀ i, i < n → ∀ D H2 acc H' σ', EnvOk (era (D :: ex) H') σ' ((wipeG Γ [j]).set j (.dat (xd i))) → Al (D :: ex) H' → P D H2 i acc H' → H' D = some (.lst acc) → ∀ (s : Shared) (H0 : Hp) (C : Addr) (cl : List (Str × Addr)) (fp : List Addr) (Q : VK),
      (∀ v H4, H4 D = some (.lst acc) → P D H2 (i + 1) (acc ++ [v]) H4 → Q v H4) → WE (X.blk s H0 scope (compEnvC scope cl C X.env) fp) elt σ' H' Q) :
    ∃ (wi : TI) (g : TG) (tt : TT) (te : TE), PI X (.Name x tp) iter wi ∧ GB X scope (.Name x tp) g ∧
    (∀ (s : Shared) (H : Hp) (C : Addr) (cl : List (Str × Addr)) (fp : List Addr), PTs (X.blk s H scope (compEnvC scope cl C X.env) fp) [] tt) ∧
    (∀ (s : Shared) (H : Hp) (C : Addr) (cl : List (Str × Addr)) (fp : List Addr), PE (X.blk s H scope (compEnvC scope cl C X.env) fp) elt te) ∧
    ∀ Q : VK, (∀ D H2 acc H', H2 D = none → Ex H H2 → H' D = some (.lst acc) → P D H2 n acc H' → Q (.ref D) H') → tLc wi g tt te [j] σ H Q := by
  obtain ⟨wi, hwi, hrd⟩ := hi
  refine ⟨wi, gName j, tYes, FE X scope elt, hwi, hg, fun _ _ _ _ _ => pts_nil, fun s H C cl fp => ⟨fun pins s' σ' H' Q I h => h s H C cl fp pins s' I⟩, fun Q q => ?_⟩
  refine hrd _ fun J H2 Y e2 W hY => ?_
  intro D hD
  refine lc_it W (fun i H' => ∃ acc, H' D = some (.lst acc) ∧ P D H2 i acc H') ⟨[], upd_same, L.zero D H2 e2 hD⟩ (fun i H' hi ⟨acc, pD, p⟩ => (L.fr _ _ _ _ _ p).1) (fun i x H' H'' hi ⟨acc, pD, p⟩ y => ?_) (fun H' ⟨acc, pD, p⟩ => q D H2 acc H' hD e2 pD p)
  obtain ⟨f1, f2, f3⟩ := L.fr _ _ _ _ _ p
  obtain ⟨e3, hx⟩ := hY i H' x H'' hi f1 y
  have AD'' : Al (D :: ex) H'' := (f2.cons pD).up e3
  have hh : Ex (era ex H2) (era (D :: ex) H') := era_hide2 f1 hD
  have E'' : EnvOk (era (D :: ex) H'') σ Γ := (E.up (era_ex e2)).up (hh.trans (era_ex e3))
  have hx' := hx (D :: ex) hh (f2.cons pD)
  refine gok_name (n := n) (xd := xd) (D :: ex) σ H'' x i hi E'' hx' _ fun σ' E' hw => ⟨hw, ?_⟩
  unfold tYes
  simp only [if_true]
  intro s0 H0 C cl fp
  refine he i hi D H2 acc H'' σ' E' AD'' (L.up _ _ _ _ _ _ p e3) (e3 D _ pD) s0 H0 C cl fp _ fun v H4 e4 p4 => ⟨acc, e4, ?_, acc ++ [v], upd_same, L.put _ _ _ _ _ _ hD e2 p4⟩
  rw [f3]
  exact Nat.lt_of_lt_of_le (by omega : i < 100000) (by decide)
theorem ws_setLcG {X : Cx} {elt iter : Expr} {scope : Scope} {n : Nat} {x : Str} {tp : Pos} {j : Nat} {P : Addr → Hp → Nat → List V → Hp → Prop} {σ : L2.St} {H : Hp} {E : Ends} {rest : List Stmt} {pos spos py : Pos} {y : Str} (i : Nat) (hc : X.calm = true) (hN : X.N.Nodup) (hy : X.N[i]? = some y) (hyl : X.env.scope.names.lookup y = some .local)
    (hsw : swapsWith (.ListComp elt [⟨.Name x tp, iter, [], 0⟩] scope pos) (some (.Name y py)) spos.line X.env = pure true) (hb : BlkOk X.N X.env.scope scope [(x, j)])
    (h : ∃ (wi : TI) (g : TG) (tt : TT) (te : TE), PI X (.Name x tp) iter wi ∧ GB X scope (.Name x tp) g ∧
    (∀ (s : Shared) (H : Hp) (C : Addr) (cl : List (Str × Addr)) (fp : List Addr), PTs (X.blk s H scope (compEnvC scope cl C X.env) fp) [] tt) ∧
    (∀ (s : Shared) (H : Hp) (C : Addr) (cl : List (Str × Addr)) (fp : List Addr), PE (X.blk s H scope (compEnvC scope cl C X.env) fp) elt te) ∧
    ∀ Q : VK, (∀ D H2 acc H', H2 D = none → Ex H H2 → H' D = some (.lst acc) → P D H2 n acc H' → Q (.ref D) H') → tLc wi g tt te [j] σ H Q)
    (k : ∀ D H2 acc H', H2 D = none → Ex H H2 → H' D = some (.lst acc) → P D H2 n acc H' → WS X rest E (σ.set i (some (.ref D))) H') (hs : ∀ x, foldedSetIterable iter X.env x = pure x := by intro _; rfl) :
    WS X (.Assign [.Name y py] (.ListComp elt [⟨.Name x tp, iter, [], 0⟩] scope pos) spos :: rest) E σ H := by
  obtain ⟨wi, g, tt, te, h1, h2, h3, h4, h5⟩ := h
  refine ws_cons (ps_setLc hc hN hy hyl hsw h1 hb h2 h3 h4 hs) ?_
  exact h5 _ fun D H2 acc H' a b c d => k D H2 acc H' a b c d
theorem we_lcG {X : Cx} {elt iter : Expr} {scope : Scope} {n : Nat} {x : Str} {tp : Pos} {j : Nat} {P : Addr → Hp → Nat → List V → Hp → Prop} {σ : L2.St} {H : Hp} {pos : Pos} {Q : VK} (hc : X.calm = true) (hN : X.N.Nodup) (hb : BlkOk X.N X.env.scope scope [(x, j)])
    (h : ∃ (wi : TI) (g : TG) (tt : TT) (te : TE), PI X (.Name x tp) iter wi ∧ GB X scope (.Name x tp) g ∧
    (∀ (s : Shared) (H : Hp) (C : Addr) (cl : List (Str × Addr)) (fp : List Addr), PTs (X.blk s H scope (compEnvC scope cl C X.env) fp) [] tt) ∧
    (∀ (s : Shared) (H : Hp) (C : Addr) (cl : List (Str × Addr)) (fp : List Addr), PE (X.blk s H scope (compEnvC scope cl C X.env) fp) elt te) ∧
    ∀ Q : VK, (∀ D H2 acc H', H2 D = none → Ex H H2 → H' D = some (.lst acc) → P D H2 n acc H' → Q (.ref D) H') → tLc wi g tt te [j] σ H Q)
    (k : ∀ D H2 acc H', H2 D = none → Ex H H2 → H' D = some (.lst acc) → P D H2 n acc H' → Q (.ref D) H') (hs : ∀ x, foldedSetIterable iter X.env x = pure x := by intro _; rfl) :
    WE X (.ListComp elt [⟨.Name x tp, iter, [], 0⟩] scope pos) σ H Q := by
  obtain ⟨wi, g, tt, te, h1, h2, h3, h4, h5⟩ := h
  exact we_of (pe_lc hc hN h1 hb h2 h3 h4 hs) (h5 Q k)
theorem pd_at {X : Cx} {ex : List Addr} {Γ : List Sl} {tg iter : Expr} {n : Nat} {xd : Nat → PyData} {σ : L2.St} {H : Hp} (h : IV X ex Γ tg iter n xd) (E : EnvOk (era ex H) σ Γ) (A : Al ex H) : IVat X ex tg iter n xd σ H := h σ H E A
def spPurse (K : PySem.W.Frag) : Sp := fun vs H Q _ => ∃ (a : Addr) (ns : List Int), vs = [.ref a] ∧ SqL K H a (ns.map V.int) ∧ ∀ (p c : Addr) (H2 : Hp), Ex H H2 → PInv p c 0 H2 → Q (.ref p) H2
theorem sc35 : FnScope ["_law_script", "_law_cells", "_law_cell"] ["_law_script"] (defScope (topS 35)) := ⟨rfl, rfl, rfl, by decide +kernel, rfl, by decide +kernel, by decide +kernel⟩
theorem ints_mem {ns : List Int} {i : Nat} {v : V} (h : (ns.map V.int)[i]? = some v) : v = .int (ns.getD i 0) := by
  rw [List.getElem?_map, Option.map_eq_some_iff] at h
  obtain ⟨x, h1, h2⟩ := h
  rw [List.getD_eq_getElem?_getD, h1, ← h2]
  rfl
theorem eqv_nil (cs : List Int) : PyData.eqv (dS cs) (.list []) = decide (cs = []) := by
  cases cs with
  | nil => exact (shp_Is []).refl
  | cons x r =>
    rw [decide_eq_false (by simp)]
    unfold dS
    rw [List.map_cons]
    simp [PyData.eqv, PyData.eqvAll]
section
variable {P : Program} {w : World} {K : PySem.W.Frag} {mg : Str → Option Value} {base : Heap}
theorem ok35 {f : Addr} {fd : FuncData} (F0 : Fun K "_law_purse" "_law_purse" (topS 35) f fd) : FnOk P w K mg base CX0 1 f fd ["_law_script"] (spPurse K) := by
  refine ok_bodyP F0 sc35 (fun vs H Q E ⟨a, ns, e, _⟩ => by rw [e]; rfl) fun cdv A outer s H E vs Q hr h => ?_
  obtain ⟨a, ns, rfl, hq, q⟩ := h
  have E0 : EnvOk (era [] H) (L2.start ["_law_script", "_law_cells", "_law_cell"] [.ref a]) [.val (.ref a), .non, .non] := envOk_startP .nil
  have A0 : Al [] H := fun a ha => nomatch ha
  have hcut : cutV (ns.map V.int) none (some 63) = (ns.take (min 63 ns.length)).map V.int := by
    unfold cutV
    rw [show (63 : Int) = ((63 : Nat) : Int) from rfl, HT.sIx_nat, List.length_map]
    show ((ns.map V.int).drop 0).take (min 63 ns.length - 0) = _
    rw [List.drop_zero, Nat.sub_zero, List.map_take]
  obtain ⟨ms, hms⟩ : ∃ ms, ms = ns.take (min 63 ns.length) := ⟨_, rfl⟩
  rw [← hms] at hcut
  have hml : ms.length ≤ 63 := by
    rw [hms, List.length_take]
    omega
  refine ws_setLcG (P := fun D H2 i acc H' => Ex H2 H' ∧ ∃ cs : List Int, acc = cs.map V.int ∧ cs.length = i ∧ ∀ x ∈ cs, 0 ≤ x) (n := ms.length) (j := 2) 1 rfl sc35.nd rfl rfl (sw_true rfl rfl rfl (by decide +kernel)) (blkOk_by (N := ["_law_script", "_law_cells", "_law_cell"]) (sc := defScope (topS 35)) (by decide +kernel))
    ?_ ?_
  · refine lc_gen (ex := []) (n := ms.length) (j := 2) (P := fun D H2 i acc H' => Ex H2 H' ∧ ∃ cs : List Int, acc = cs.map V.int ∧ cs.length = i ∧ ∀ x ∈ cs, 0 ≤ x) (xd := fun i => .int (ms.getD i 0)) (by omega) (fun _ _ _ _ _ => pg_name sc35.nd rfl (.inl rfl)) E0 ⟨_, pi_list pe_w, fun Rk k => ?_⟩ ⟨?_, ?_, ?_, ?_⟩ (fun i hi D H2 acc H' σ' E' A' pp hacc s' H0 C cl fp Q' q' => ?_)
    · refine we_of (pe_slice sl_list (pe_var (i := 0) rfl (.inl rfl)) po_none (po_some pe_int)) ?_
      refine ⟨.ref a, E0.val rfl, 63, rfl, a, _, rfl, hq, fun p hp => ?_⟩
      rw [hcut]
      refine ⟨p, rfl, ⟨_, SqL.of upd_same⟩, ?_⟩
      refine k _ _ (YAt (ms.map V.int)) (Evl.Ex.new hp) ?_ fun i H' v H'' hi eH y => ?_
      · have W := (walk_list (K := K) (a := p) (xs := ms.map V.int)).mono (G' := fun H' => Ex (era [] (upd H p (.lst (ms.map V.int)))) (era [] H')) (fun H' z => SqL.of (by
          rw [era_nil, era_nil] at z
          exact z p _ upd_same)) fun i H x H' hi _ y => y
        rw [List.length_map] at W
        exact W
      · obtain ⟨rfl, y⟩ := y
        exact ⟨Evl.Ex.refl _, fun ex' g A' => by rw [ints_mem y]; exact .int _⟩
    · intro D H2 e hD
      exact ⟨Evl.Ex.new hD, [], rfl, rfl, fun x hx => nomatch hx⟩
    · intro D H2 i acc H' H'' ⟨a1, a2⟩ e
      exact ⟨a1.trans e, a2⟩
    · intro D H2 i acc H' ⟨a1, cs, a2, a3, a4⟩
      exact ⟨era_ex a1, (fun a ha => nomatch ha), by rw [a2, List.length_map]; exact a3⟩
    · intro D H2 i acc H' o hD e ⟨a1, a2⟩
      exact ⟨a1.mut hD, a2⟩
    · obtain ⟨a1, cs, a2, a3, a4⟩ := pp
      refine PD.run E' A' (pd_mod (pd_var (i := 2) rfl (.inl rfl) rfl) (pd_pow (pd_pow (i := 10) (j := 60) pd_int pd_int ⟨by decide, by decide +kernel⟩) pd_int ⟨by decide, by decide +kernel⟩) (by decide +kernel)) fun v H4 e4 hv => ?_
      refine q' v H4 (e4 D _ hacc) ⟨a1.trans e4, cs ++ [_], by rw [a2, hv.inti, List.map_append]; rfl, by rw [List.length_append, a3]; rfl, fun x hx => ?_⟩
      rcases List.mem_append.mp hx with h | h
      · exact a4 x h
      · rw [List.mem_singleton.mp h]
        exact Int.emod_nonneg _ (by decide +kernel)
  · rintro D H2 acc H' hD e2 hacc ⟨a1, cs, rfl, a3, a4⟩
    have e02 : Ex H H' := e2.trans a1
    have E1 : EnvOk (era [] H') (L2.start ["_law_script", "_law_cells", "_law_cell"] [.ref a]) [.val (.ref a), .non, .non] := E0.up (era_ex e02)
    have hcs : Dq (era [] H') (.ref D) (dS cs) := .lst (by rw [era_nil]; exact hacc) (DqA.of_ints cs)
    refine (?_ : SD _ [] (RP [] H) _ [.val (.ref a), .dat (dS cs), .non] _) _ H' (E1.setD (i := 1) hcs) ⟨e02, fun a ha => nomatch ha⟩
    have fin : ∀ cs' : List Int, 1 ≤ cs'.length → (∀ x ∈ cs', 0 ≤ x) → ∀ v H3, RP [] H H3 → Dq (era [] H3) v (.list [dS cs', .int 0]) → Q v H3 := fun cs' l1 l2 v H3 r hv => by
      rw [era_nil] at hv
      obtain ⟨p, xs, rfl, f1, f2⟩ := hv.lsti
      obtain ⟨x, y, rfl, g1, g2⟩ := f2.two
      obtain ⟨c, ys, rfl, k1, k2⟩ := g1.lsti
      rw [g2.inti] at f1
      rw [k2.ints] at k1
      refine q p c H3 r.1 ⟨fun e => ?_, cs', 0, f1, k1, l1, l2, Nat.le_refl _⟩
      rw [← e, f1] at k1
      have k3 := congrArg (fun o => match o with | some (HO.lst xs) => xs[0]? | _ => none) k1
      simp only at k3
      cases cs' with
      | nil => cases k3
      | cons a b => cases k3
    refine sd_if ro_p ((td_eq hr.units (pd_var (i := 1) rfl (.inl rfl) rfl) (pd_lst ad_nil) (shp_Is _).ok (shp_Is []).ok).to (eqv_nil cs)) (fun hb => ?_) (fun hb => ?_)
    · refine sd_set 1 ro_p sc35.nd rfl (.inl rfl) (pd_lst (ad_cons pd_int ad_nil)) ?_
      refine sd_next (D' := ⟨fun _ H' => Q .non H', Q, fun _ _ => False, fun _ _ => False⟩) ?_
      exact sd_ret ro_p (pd_lst (ad_cons (pd_var (i := 1) rfl (.inl rfl) rfl) (ad_cons pd_int ad_nil))) fun v H3 r hv => fin [0] (by decide) (fun x hx => by rw [List.mem_singleton.mp hx]; decide) v H3 r hv
    · refine sd_next (D' := ⟨fun _ H' => Q .non H', Q, fun _ _ => False, fun _ _ => False⟩) ?_
      have hne : cs ≠ [] := of_decide_eq_false hb
      exact sd_ret ro_p (pd_lst (ad_cons (pd_var (i := 1) rfl (.inl rfl) rfl) (ad_cons pd_int ad_nil))) fun v H3 r hv => fin cs (List.length_pos_iff.mpr hne) a4 v H3 r hv
end
end Cv

namespace Cv
open PySem PySem.Spec PyProof.Rows L2
open Evl (Ex)
/-! ### what draws -/
theorem WE.mono {X : Cx} {e : Expr} {σ : L2.St} {H : Hp} {Q Q' : VK} (h : WE X e σ H Q) (q : ∀ v H2, Q v H2 → Q' v H2) : WE X e σ H Q' := fun pins s I => thn (h pins s I) fun u s' ⟨v, H', I', r, k⟩ => ⟨v, H', I', r, q v H' k⟩
def ID (X : Cx) (p c : Addr) (n n' : Nat) (ex : List Addr) (Γ : List Sl) (e : Expr) (C : PyData → Prop) : Prop :=
  ∀ (σ : L2.St) (H : Hp), EnvOk (era ex H) σ Γ → Al ex H → PInv p c n H → ∀ Q : VK, (∀ v d H2, C d → Dq (era ex H2) v d → Ex (era [p, c] H) (era [p, c] H2) → PInv p c n' H2 → Q v H2) → WE X e σ H Q
theorem al_keep {ex : List Addr} {p c : Addr} {n : Nat} {H H2 : Hp} (A : Al ex H) (e : Ex (era [p, c] H) (era [p, c] H2)) (I : PInv p c n H2) : Al ex H2 := fun a ha z => by
  by_cases h : a ∈ [p, c]
  · exact I.al a h z
  · cases q : H a with
    | none => exact A a ha q
    | some o =>
      have h1 := e a o (by rw [era_at h]; exact q)
      rw [era_at h, z] at h1
      cases h1
/-- a whole number in reach -/
def Zi (Z : Int → Prop) (d : PyData) : Prop := ∃ r : Int, d = .int r ∧ Z r
section
variable {X : Cx} {p c : Addr} {n n' n1 n2 : Nat} {ex : List Addr} {Γ : List Sl} {e a b : Expr} {C C' : PyData → Prop} {pos : Pos} {Z Z1 Z2 : Int → Prop} {d : PyData}
theorem ID.weak (h : ID X p c n n' ex Γ e C) (q : ∀ d, C d → C' d) : ID X p c n n' ex Γ e C' := fun σ H E A I Q k => h σ H E A I Q fun v d H2 a b c' d' => k v d H2 (q d a) b c' d'
theorem id_pd (h : PD X ex Γ e d) : ID X p c n n ex Γ e (fun d' => d' = d) := fun σ H E A I Q k => h σ H E A Q fun v H2 e2 hv => k v d H2 rfl hv (era_ex e2) (I.up e2)
theorem id_int {i : Int} (h : PD X ex Γ e (.int i)) : ID X p c n n ex Γ e (Zi fun r => r = i) := (id_pd h).weak fun d e => ⟨i, e, rfl⟩
theorem id_bin {op : Operator} {r : R2} {g : Int → Int → Int} {Cc : Int → Int → Prop} (hs : ∀ a ∈ [p, c], a ∈ ex) (ho : OpR X (binaryOp op) r) (hr : ∀ i j (H : Hp) (Q : VK), Cc i j → Q (.int (g i j)) H → r (.int i) (.int j) H Q)
    (ha : ID X p c n n1 ex Γ a (Zi Z1)) (hb : ID X p c n1 n2 ex Γ b (Zi Z2)) (hc : ∀ i j, Z1 i → Z2 j → Cc i j) : ID X p c n n2 ex Γ (.BinOp a op b pos) (Zi fun k => ∃ i j, Z1 i ∧ Z2 j ∧ k = g i j) := fun σ H E A I Q k => by
  refine we_of (pe_op ho pe_w pe_w) ?_
  refine ha σ H E A I _ fun v d H1 z1 h1 e1 I1 => ?_
  obtain ⟨i, rfl, zi⟩ := z1
  rw [h1.inti]
  refine hb σ H1 (E.up (era_sub hs e1)) (al_keep A e1 I1) I1 _ fun w d H2 z2 h2 e2 I2 => ?_
  obtain ⟨j, rfl, zj⟩ := z2
  rw [h2.inti]
  exact hr i j H2 Q (hc i j zi zj) (k _ (.int (g i j)) H2 ⟨_, rfl, i, j, zi, zj, rfl⟩ (.int _) (e1.trans e2) I2)
theorem id_add (hs : ∀ a ∈ [p, c], a ∈ ex) (ha : ID X p c n n1 ex Γ a (Zi Z1)) (hb : ID X p c n1 n2 ex Γ b (Zi Z2)) : ID X p c n n2 ex Γ (.BinOp a .Add b pos) (Zi fun k => ∃ i j, Z1 i ∧ Z2 j ∧ k = i + j) :=
  id_bin (Cc := fun _ _ => True) hs op_add (fun i j H Q _ q => ⟨i, j, rfl, rfl, q⟩) ha hb fun _ _ _ _ => trivial
theorem id_sub (hs : ∀ a ∈ [p, c], a ∈ ex) (ha : ID X p c n n1 ex Γ a (Zi Z1)) (hb : ID X p c n1 n2 ex Γ b (Zi Z2)) : ID X p c n n2 ex Γ (.BinOp a .Sub b pos) (Zi fun k => ∃ i j, Z1 i ∧ Z2 j ∧ k = i - j) :=
  id_bin (Cc := fun _ _ => True) hs op_sub (fun i j H Q _ q => ⟨i, j, rfl, rfl, q⟩) ha hb fun _ _ _ _ => trivial
theorem id_draw {k i : Nat} {x : Str} {xp fp : Pos} {B : Int} (hs : ∀ a ∈ [p, c], a ∈ ex) (F : Dn X.prog X.w X.K X.mg X.base "_law_draw" k ["_law_purse_here", "_law_out_of"] spDraw) (hr : Room k X.A) (hg : Gl X "_law_draw") (hN : X.N[i]? = some x) (hv : Vis X.env.scope x) (hG : Γ[i]? = some (.val (.ref p)))
    (he : ID X p c n n1 ex Γ e (Zi fun m => 0 < m ∧ m ≤ B)) (hB : B ≤ 10 ^ 9) (hn : n1 ≤ 10 ^ 6) (hd : (x == ("__debug__" : Str)) = false := by decide) (hcd : (x == ("__classdict__" : Str)) = false := by decide)
    (hs1 : starEach [.Name x xp, e] X.env = (false, eval (.Name x xp) X.env) :: starEach [e] X.env := by rfl) (hs2 : starEach [e] X.env = (false, eval e X.env) :: starEach [] X.env := by rfl) (hpl : (backTo pos (starEach [e] X.env)).any (·.1) = false := by rfl) :
    ID X p c n (n1 + 1) ex Γ (.Call (.Name "_law_draw" fp) [.Name x xp, e] [] pos) (Zi fun r => 0 ≤ r ∧ r < B) := fun σ H E A I Q q => by
  obtain ⟨f, fd, F, hm, hk, hb⟩ := F.ex
  refine we_of (pe_call F hr hg hm hk hb .nil pass0 (pa_cons (pe_var hN hv hd hcd) (pa_cons pe_w pa_nil hs2) hs1) (by decide) hs1 hpl) ?_
  refine ⟨.ref p, E.val hG, ?_⟩
  refine he σ H E A I _ fun v d H1 z1 h1 e1 I1 => ?_
  obtain ⟨m, rfl, m0, mB⟩ := z1
  rw [h1.inti]
  refine ⟨p, c, n1, m, rfl, I1, hn, m0, by omega, fun r H2 r0 r1 e2 I2 => ?_⟩
  exact q _ (.int r) H2 ⟨r, rfl, r0, by omega⟩ (.int r) (e1.trans e2) I2
/-- [d0, d1, ..][i], the index drawn -/
theorem id_pick {ds : List PyData} (hs : ∀ a ∈ [p, c], a ∈ ex) (ha : PD X ex Γ a (.list ds)) (hb : ID X p c n n1 ex Γ b (Zi fun r => 0 ≤ r ∧ r < (ds.length : Int))) (hx : PlainIx b := by exact fun _ _ => rfl) : ID X p c n n1 ex Γ (.Subscript a b pos) (fun d => d ∈ ds) := fun σ H E A I Q q => by
  refine we_of (pe_ix ix_list pe_w pe_w hx) ?_
  refine ha σ H E A _ fun v H1 e1 h1 => ?_
  refine hb σ H1 (E.up (era_ex e1)) (A.up e1) (I.up e1) _ fun w d H2 z2 h2 e2 I2 => ?_
  obtain ⟨i, rfl, i0, i1⟩ := z2
  rw [h2.inti]
  obtain ⟨l, xs, rfl, f1, r1⟩ := (h1.up (era_sub hs e2)).lsti
  have hi : i.toNat < ds.length := by omega
  have at0 : L2.atI ds i = some ds[i.toNat] := by
    have h := L2.atI_nat (List.getElem?_eq_getElem hi)
    rw [Int.toNat_of_nonneg i0] at h
    exact h
  obtain ⟨z, g1, g2⟩ := r1.atI at0
  exact ⟨l, xs, i, z, rfl, rfl, SqL.of (era_some f1).2, g1, q z _ H2 (List.getElem_mem hi) g2 ((era_ex e1).trans e2) I2⟩
/-- max(i, e) -/
theorem id_max {fp : Pos} {i : Int} (hs : ∀ a ∈ [p, c], a ∈ ex) (hc : X.calm = true) (hg : Gl X "max") (hm : X.mg "max" = none) (ha : PD X ex Γ a (.int i)) (hb : ID X p c n n1 ex Γ b (Zi Z))
    (hs1 : starEach [a, b] X.env = (false, eval a X.env) :: starEach [b] X.env := by rfl) (hs2 : starEach [b] X.env = (false, eval b X.env) :: starEach [] X.env := by rfl) (hpl : (backTo pos (starEach [b] X.env)).any (·.1) = false := by rfl) :
    ID X p c n n1 ex Γ (.Call (.Name "max" fp) [a, b] [] pos) (Zi fun k => ∃ j, Z j ∧ k = if j > i then j else i) := fun σ H E A I Q q => by
  refine we_of (pe_callB (call_max2 hc) hg hm boot_max (pa_cons pe_w (pa_cons pe_w pa_nil hs2) hs1) (by decide) (by decide) hs1 hpl) ?_
  refine ha σ H E A _ fun v H1 e1 h1 => ?_
  refine hb σ H1 (E.up (era_ex e1)) (A.up e1) (I.up e1) _ fun w d H2 z2 h2 e2 I2 => ?_
  obtain ⟨j, rfl, zj⟩ := z2
  rw [h1.inti, h2.inti]
  exact ⟨i, j, rfl, q _ (.int _) H2 ⟨_, rfl, j, zj, rfl⟩ (.int _) ((era_ex e1).trans e2) I2⟩
/-- (a, b), the first drawn -/
theorem id_tup {k : Nat} {d2 : PyData} (hs : ∀ a ∈ [p, c], a ∈ ex) (ha : ID X p c n n1 ex Γ a C) (hb : PD X ex Γ b d2)
    (hs1 : starEach [a, b] X.env = (false, eval a X.env) :: starEach [b] X.env := by rfl) (hs2 : starEach [b] X.env = (false, eval b X.env) :: starEach [] X.env := by rfl) : ID X p c n n1 ex Γ (.Tuple [a, b] k pos) (fun d => ∃ d1, C d1 ∧ d = .tuple [d1, d2]) := fun σ H E A I Q q => by
  refine we_of (pe_tup (pa_cons pe_w (pa_cons pe_w pa_nil hs2) hs1)) ?_
  refine ha σ H E A I _ fun v d1 H1 z1 h1 e1 I1 => ?_
  have E1 := E.up (era_sub hs e1)
  have A1 := al_keep A e1 I1
  refine hb σ H1 E1 A1 _ fun w H2 e2 h2 => ?_
  refine ⟨len_line (by simp), fun t ht => ?_⟩
  have A2 := A1.up e2
  have I2 := I1.up e2
  refine q _ _ _ ⟨d1, z1, rfl⟩ (dq_newT (H2 := H) A2 ht (.cons (h1.up (era_ex e2)) (.cons h2 .nil))) (e1.trans ((era_ex e2).trans (era_ex (Evl.Ex.new ht)))) (I2.up (Evl.Ex.new ht))
/-- what a comprehension that draws has laid by the turn -/
def PL (p c : Addr) (n : Nat) (Z : Int → Prop) (H : Hp) : Addr → Hp → Nat → List V → Hp → Prop := fun D H2 i acc H' => H2 D = none ∧ Ex (era [p, c] H2) (era [p, c] H') ∧ PInv p c (n + i) H' ∧ Ex H H2 ∧ ∃ l : List Int, acc = l.map V.int ∧ l.length = i ∧ ∀ y ∈ l, Z y
theorem lcD {elt iter : Expr} {scope : Scope} {x : Str} {tp : Pos} {j m : Nat} {xd : Nat → PyData} {Z : Int → Prop} {σ : L2.St} {H : Hp} (hi : IV X [p, c] Γ (.Name x tp) iter m xd) (hm : m ≤ 50000) (hg : GB X scope (.Name x tp) (gName j))
    (he : ∀ i, i < m → ∀ D (s : Shared) (H0 : Hp) (C : Addr) (cl : List (Str × Addr)) (fp : List Addr), ID (X.blk s H0 scope (compEnvC scope cl C X.env) fp) p c (n + i) (n + i + 1) (D :: [p, c]) ((wipeG Γ [j]).set j (.dat (xd i))) elt (Zi Z)) (E : EnvOk (era [p, c] H) σ Γ) (A : Al [p, c] H) (I : PInv p c n H) :
    ∃ (wi : TI) (g : TG) (tt : TT) (te : TE), PI X (.Name x tp) iter wi ∧ GB X scope (.Name x tp) g ∧
    (∀ (s : Shared) (H : Hp) (C : Addr) (cl : List (Str × Addr)) (fp : List Addr), PTs (X.blk s H scope (compEnvC scope cl C X.env) fp) [] tt) ∧
    (∀ (s : Shared) (H : Hp) (C : Addr) (cl : List (Str × Addr)) (fp : List Addr), PE (X.blk s H scope (compEnvC scope cl C X.env) fp) elt te) ∧
    ∀ Q : VK, (∀ D H2 acc H', H2 D = none → Ex H H2 → H' D = some (.lst acc) → PL p c n Z H D H2 m acc H' → Q (.ref D) H') → tLc wi g tt te [j] σ H Q := by
  refine lc_gen (ex := [p, c]) (n := m) (j := j) (P := PL p c n Z H) (xd := xd) hm hg E (pd_at hi E A) ⟨?_, ?_, ?_, ?_⟩ (fun i hi D H2 acc H' σ' E' A' pp hacc s' H0 C cl fp Q' q' => ?_)
  · intro D H2 e hD
    have e2 : Ex H (upd H2 D (.lst [])) := e.trans (Evl.Ex.new hD)
    exact ⟨hD, era_ex (Evl.Ex.new hD), (I.up e2).le (Nat.le_add_right _ _), e, [], rfl, rfl, fun y hy => nomatch hy⟩
  · intro D H2 i acc H' H'' ⟨a0, a1, a2, a3⟩ e
    exact ⟨a0, a1.trans (era_ex e), a2.up e, a3⟩
  · intro D H2 i acc H' ⟨a0, a1, a2, a3, l, a4, a5, a6⟩
    exact ⟨a1, a2.al, by rw [a4, List.length_map]; exact a5⟩
  · intro D H2 i acc H' o hD e ⟨a0, a1, a2, a3⟩
    have al2 : Al [p, c] H2 := A.up e
    have hne : ∀ a ∈ [p, c], a ≠ D := fun a ha z => al2 a ha (by rw [z]; exact hD)
    refine ⟨hD, fun a o' ha => ?_, ?_, a3⟩
    · have h := a1 a o' ha
      obtain ⟨h1, h2⟩ := era_some ha
      have hD' : a ≠ D := ne_of_none h2 hD
      rw [era_at h1, upd_ne hD']
      exact (era_some h).2
    · obtain ⟨hpc, cells, wt, b1, b2, b3⟩ := a2
      refine ⟨hpc, cells, wt, ?_, ?_, b3⟩
      · rw [upd_ne (hne p List.mem_cons_self)]
        exact b1
      · rw [upd_ne (hne c (List.mem_cons_of_mem _ List.mem_cons_self))]
        exact b2
  · obtain ⟨a0, a1, a2, a3, l, a4, a5, a6⟩ := pp
    have hDp : D ∉ [p, c] := fun z => (A.up a3) D z a0
    refine he i hi D s' H0 C cl fp σ' H' E' A' a2 _ fun v d H4 zd hv e4 I4 => ?_
    obtain ⟨r, rfl, zr⟩ := zd
    refine q' v H4 ?_ ⟨a0, a1.trans e4, I4, a3, l ++ [r], by rw [a4, hv.inti, List.map_append]; rfl, by rw [List.length_append, a5]; rfl, fun y hy => ?_⟩
    · have h := e4 D (.lst acc) (by rw [era_at hDp]; exact hacc)
      rw [era_at hDp] at h
      exact h
    · rcases List.mem_append.mp hy with h | h
      · exact a6 y h
      · rw [List.mem_singleton.mp h]; exact zr
theorem lcD_fin {Z : Int → Prop} {H : Hp} {m : Nat} (A : Al [p, c] H) {D : Addr} {H2 H' : Hp} {acc : List V} (hacc : H' D = some (.lst acc)) (h : PL p c n Z H D H2 m acc H') :
    ∃ l : List Int, l.length = m ∧ (∀ y ∈ l, Z y) ∧ Dq (era [p, c] H') (.ref D) (dS l) ∧ Ex (era [p, c] H) (era [p, c] H') ∧ PInv p c (n + m) H' := by
  obtain ⟨a0, a1, a2, a3, l, rfl, a5, a6⟩ := h
  have hDp : D ∉ [p, c] := fun z => (A.up a3) D z a0
  exact ⟨l, a5, a6, .lst (by rw [era_at hDp]; exact hacc) (DqA.of_ints l), (era_ex a3).trans a1, a2⟩
/-- [elt for x in ..], the elements drawn one after the other -/
theorem id_lc {elt iter : Expr} {scope : Scope} {x : Str} {tp : Pos} {j m : Nat} {xd : Nat → PyData} {Z : Int → Prop} (hc : X.calm = true) (hN : X.N.Nodup) (hb : BlkOk X.N X.env.scope scope [(x, j)]) (hi : IV X [p, c] Γ (.Name x tp) iter m xd) (hm : m ≤ 50000) (hg : GB X scope (.Name x tp) (gName j))
    (he : ∀ i, i < m → ∀ D (s : Shared) (H0 : Hp) (C : Addr) (cl : List (Str × Addr)) (fp : List Addr), ID (X.blk s H0 scope (compEnvC scope cl C X.env) fp) p c (n + i) (n + i + 1) (D :: [p, c]) ((wipeG Γ [j]).set j (.dat (xd i))) elt (Zi Z)) (hs : ∀ x, foldedSetIterable iter X.env x = pure x := by intro _; rfl) :
    ID X p c n (n + m) [p, c] Γ (.ListComp elt [⟨.Name x tp, iter, [], 0⟩] scope pos) (fun d => ∃ l : List Int, l.length = m ∧ (∀ y ∈ l, Z y) ∧ d = dS l) := fun σ H E A I Q k => by
  refine we_lcG (P := PL p c n Z H) (n := m) (j := j) hc hN hb (lcD hi hm hg he E A I) (fun D H2 acc H' hD e2 hacc h => ?_) hs
  obtain ⟨l, l1, l2, l3, l4, l5⟩ := lcD_fin A hacc h
  exact k _ _ H' ⟨l, l1, l2, rfl⟩ l3 l4 l5
/-! ### promises of what draws -/
end
def spP (k : Nat) (Pre : List PyData → Prop) (C : List PyData → PyData → Prop) : Sp := fun vs H Q _ => ∃ (p c : Addr) (n : Nat) (us : List V) (ds : List PyData), vs = .ref p :: us ∧ PInv p c n H ∧ n + k ≤ 10 ^ 6 ∧ DqA (era [p, c] H) us ds ∧ Pre ds ∧
  ∀ v d H2, C ds d → Dq (era [p, c] H2) v d → Ex (era [p, c] H) (era [p, c] H2) → PInv p c (n + k) H2 → Q v H2
def RQ (p c : Addr) (n : Nat) (H0 : Hp) (H : Hp) : Prop := PInv p c n H ∧ Ex (era [p, c] H0) (era [p, c] H)
theorem ro_q {p c : Addr} {n : Nat} {H0 : Hp} : RO [p, c] (RQ p c n H0) := ⟨fun H H' q e => ⟨q.1.up e, q.2.trans (era_ex e)⟩, fun H q => q.1.al⟩
section
variable {X : Cx} {p c : Addr} {n n' n1 : Nat} {Γ : List Sl} {e : Expr} {C : PyData → Prop} {pos : Pos} {H0 : Hp} {D : Ends} {rest : List Stmt}
theorem id_call {k kk i : Nat} {f x : Str} {fp xp : Pos} {es : List Expr} {ps : List Str} {ds : List PyData} {Pre : List PyData → Prop} {Cc : List PyData → PyData → Prop} (F : Dn X.prog X.w X.K X.mg X.base f k ps (spP kk Pre Cc)) (hr : Room k X.A) (hg : Gl X f) (hN : X.N[i]? = some x) (hv : Vis X.env.scope x) (hG : Γ[i]? = some (.val (.ref p)))
    (ha : AD X [p, c] Γ es ds) (hp : Pre ds) (hn : n + kk ≤ 10 ^ 6) (hd : (x == ("__debug__" : Str)) = false := by decide) (hcd : (x == ("__classdict__" : Str)) = false := by decide) (hfd : (f == ("__debug__" : Str)) = false := by decide)
    (hs1 : starEach (.Name x xp :: es) X.env = (false, eval (.Name x xp) X.env) :: starEach es X.env := by rfl) (hpl : (backTo pos (starEach es X.env)).any (·.1) = false := by rfl) :
    ID X p c n (n + kk) [p, c] Γ (.Call (.Name f fp) (.Name x xp :: es) [] pos) (Cc ds) := fun σ H E A I Q q => by
  obtain ⟨g, fd, F, hm, hk, hb⟩ := F.ex
  refine we_of (pe_call F hr hg hm hk hb .nil pass0 (pa_cons (pe_var hN hv hd hcd) pa_w hs1) hfd hs1 hpl) ?_
  refine ⟨.ref p, E.val hG, ?_⟩
  refine ha σ H E A _ fun vs H1 e1 h1 => ?_
  show spP kk Pre Cc ((V.ref p :: vs) ++ []) H1 Q _
  rw [List.append_nil]
  exact ⟨p, c, n, vs, ds, rfl, I.up e1, hn, h1, hp, fun v d H2 cd hv e2 I2 => q v d H2 cd hv ((era_ex e1).trans e2) I2⟩
theorem sd_id (i : Nat) {x : Str} {xp : Pos} (hN : X.N.Nodup) (hi : X.N[i]? = some x) (hx : Loc X.env.scope x) (he : ID X p c n n' [p, c] Γ e C) (k : ∀ d, C d → SD X [p, c] (RQ p c n' H0) D (Γ.set i (.dat d)) rest)
    (hs : swapsWith e (some (.Name x xp)) pos.line X.env = pure false := by rfl) (hf : X.fn x = true ∨ X.env.scope.names.lookup x = some .local := by first | exact .inl rfl | exact .inr rfl | assumption) :
    SD X [p, c] (RQ p c n H0) D Γ (.Assign [.Name x xp] e pos :: rest) := fun σ H E q => by
  refine ws_cons (ps_set hN hi hx pe_w hs hf) ?_
  refine he σ H E q.1.al q.1 _ fun v d H1 cd hv e1 I1 => ?_
  exact k d cd _ H1 ((E.up e1).setD hv) ⟨I1, q.2.trans e1⟩
theorem sd_idLc {elt iter : Expr} {scope : Scope} {x y : Str} {tp py lpos : Pos} {j m : Nat} {xd : Nat → PyData} {Z : Int → Prop} (i : Nat) (hc : X.calm = true) (hN : X.N.Nodup) (hy : X.N[i]? = some y) (hyl : X.env.scope.names.lookup y = some .local)
    (hsw : swapsWith (.ListComp elt [⟨.Name x tp, iter, [], 0⟩] scope lpos) (some (.Name y py)) pos.line X.env = pure true) (hb : BlkOk X.N X.env.scope scope [(x, j)]) (hi : IV X [p, c] Γ (.Name x tp) iter m xd) (hm : m ≤ 50000) (hg : GB X scope (.Name x tp) (gName j))
    (he : ∀ i, i < m → ∀ D (s : Shared) (H0 : Hp) (C : Addr) (cl : List (Str × Addr)) (fp : List Addr), ID (X.blk s H0 scope (compEnvC scope cl C X.env) fp) p c (n + i) (n + i + 1) (D :: [p, c]) ((wipeG Γ [j]).set j (.dat (xd i))) elt (Zi Z))
    (k : ∀ l : List Int, l.length = m → (∀ y ∈ l, Z y) → SD X [p, c] (RQ p c (n + m) H0) D (Γ.set i (.dat (dS l))) rest) (hs : ∀ x, foldedSetIterable iter X.env x = pure x := by intro _; rfl) :
    SD X [p, c] (RQ p c n H0) D Γ (.Assign [.Name y py] (.ListComp elt [⟨.Name x tp, iter, [], 0⟩] scope lpos) pos :: rest) := fun σ H E q => by
  refine ws_setLcG (P := PL p c n Z H) (n := m) (j := j) i hc hN hy hyl hsw hb (lcD hi hm hg he E q.1.al q.1) (fun D H2 acc H' hD e2 hacc h => ?_) hs
  obtain ⟨l, l1, l2, l3, l4, l5⟩ := lcD_fin q.1.al hacc h
  exact k l l1 l2 _ H' ((E.up l4).setD l3) ⟨l5, q.2.trans l4⟩
theorem sd_idRet (he : ID X p c n n' [p, c] Γ e C) (k : ∀ v d H, C d → RQ p c n' H0 H → Dq (era [p, c] H) v d → D.rt v H) : SD X [p, c] (RQ p c n H0) D Γ (.Return (some e) pos :: rest) := fun σ H E q => by
  refine ws_cons (ps_ret pe_w) ?_
  refine he σ H E q.1.al q.1 _ fun v d H1 cd hv e1 I1 => ?_
  exact k v d H1 cd ⟨I1, q.2.trans e1⟩ hv
end
section
variable {P : Program} {w : World} {K : PySem.W.Frag} {mg : Str → Option Value} {base : Heap}
theorem ok_bodyR {x qual : Str} {st : Stmt} {f : Addr} {fd : FuncData} {N ps : List Str} {k kk : Nat} {Pre : List PyData → Prop} {C : List PyData → PyData → Prop} (F : Fun K x qual st f fd) (S : FnScope N ps (defScope st)) (hl : ∀ ds, Pre ds → ds.length + 1 = ps.length)
    (body : ∀ (cdv : Value) (A : Around) (outer : List Env) (s : Shared) (H0 : Hp) (E : XK) (ds : List PyData) (p c : Addr) (n : Nat), Room k (A.deeper (envOfC qual (defScope st) s.heap.objs.size f cdv)) → Pre ds → n + kk ≤ 10 ^ 6 →
      ∀ D : Ends, (∀ v d H2, C ds d → RQ p c (n + kk) H0 H2 → Dq (era [p, c] H2) v d → D.rt v H2) →
      SD (CB P w K mg base N qual st f cdv A outer s H0 E) [p, c] (RQ p c n H0) D (.val (.ref p) :: ds.map Sl.dat ++ List.replicate (N.length - (ds.length + 1)) Sl.non) (defBody st)) : FnOk P w K mg base CX0 (k + 1) f fd ps (spP kk Pre C) := by
  refine ok_bodyP F S (fun vs H Q E ⟨p, c, n, us, ds, e, _, _, h, hp, _⟩ => by rw [e, List.length_cons, h.len, hl ds hp]) fun cdv A outer s H E vs Q hr h => ?_
  obtain ⟨p, c, n, us, ds, rfl, I, hn, hd, hp, q⟩ := h
  exact body cdv A outer s H E ds p c n hr hp hn ⟨fun _ H' => Q .non H', Q, fun _ _ => False, fun _ _ => False⟩ (fun v d H2 cd r hv => q v d H2 cd hv r.2 r.1) _ H (envOk_startP hd) ⟨I, Evl.Ex.refl _⟩
end
def cSmall (ds : List PyData) (d : PyData) : Prop := ∃ (l : List Int) (y : Nat), Good l y ∧ (∀ x ∈ l, x.natAbs ≤ 10 ^ 5) ∧ d = .tuple [dS l, .int (y : Int)]
def cPat (ds : List PyData) (d : PyData) : Prop := ∃ (y : Nat) (l : List Int), ds = [.int (y : Int)] ∧ l.length = y ∧ l.sum = 0 ∧ (∀ x ∈ l, x.natAbs ≤ 20000) ∧ d = dS l
theorem sc41 : FnScope ["_law_purse_here", "_law_year", "_law_many", "_law_most", "_law_i"] ["_law_purse_here"] (defScope (topS 41)) := ⟨rfl, rfl, rfl, by decide +kernel, rfl, by decide +kernel, by decide +kernel⟩
theorem sc42 : FnScope ["_law_purse_here", "_law_year", "_law_found", "_law_k"] ["_law_purse_here", "_law_year"] (defScope (topS 42)) := ⟨rfl, rfl, rfl, by decide +kernel, rfl, by decide +kernel, by decide +kernel⟩
theorem sum_small' {l : List Int} {b : Nat} (h : ∀ x ∈ l, x.natAbs ≤ b) : l.sum.natAbs ≤ l.length * b := sum_small h
section
variable {P : Program} {w : World} {K : PySem.W.Frag} {mg : Str → Option Value} {base : Heap}
theorem ok41 {f : Addr} {fd : FuncData} (F0 : Fun K "_law_small" "_law_small" (topS 41) f fd) (m : Mg mg) (dDr : Dn P w K mg base "_law_draw" 1 ["_law_purse_here", "_law_out_of"] spDraw) : FnOk P w K mg base CX0 2 f fd ["_law_purse_here"] (spP 200 (fun ds => ds = []) cSmall) := by
  refine ok_bodyR F0 sc41 (fun ds e => by rw [e]; rfl) fun cdv A outer s H0 E ds p c n hr hp hn D hD => ?_
  subst hp
  have hs : ∀ a ∈ [p, c], a ∈ [p, c] := fun a h => h
  refine sd_id 1 sc41.nd rfl (.inl rfl) (id_add hs (id_int (i := 2) pd_int) (id_draw (i := 0) (B := 11) hs dDr hr (by rfl) rfl (.inr (.inl rfl)) rfl ((id_int (i := 11) pd_int).weak fun d ⟨r, e1, e2⟩ => ⟨r, e1, by omega, by omega⟩) (by decide) (by omega))) fun d hd => ?_
  obtain ⟨_, rfl, _, r, rfl, ⟨r0, r1⟩, rfl⟩ := hd
  obtain ⟨y, hy⟩ : ∃ y : Nat, (2 : Int) + r = (y : Int) := ⟨(2 + r).toNat, by omega⟩
  have y2 : 2 ≤ y := by omega
  have y12 : y ≤ 12 := by omega
  rw [hy]
  refine sd_id 2 sc41.nd rfl (.inl rfl) (id_max (i := 4) hs rfl (by rfl) m.max pd_int (id_add hs (id_int (pd_mul (i := 2) pd_int (pd_var (i := 1) rfl (.inl rfl) rfl) (small_mul (by decide) (by omega)))) (id_draw (i := 0) (B := 60) hs dDr hr (by rfl) rfl (.inr (.inl rfl)) rfl
    ((id_pick (ds := [.int 9, .int 60]) hs (pd_lst (ad_cons pd_int (ad_cons pd_int ad_nil))) ((id_draw (i := 0) (B := 2) hs dDr hr (by rfl) rfl (.inr (.inl rfl)) rfl ((id_int (i := 2) pd_int).weak fun d ⟨r, e1, e2⟩ => ⟨r, e1, by omega, by omega⟩) (by decide) (by omega)))).weak fun d hd => ?_) (by decide) (by omega)))) fun d hd => ?_
  · simp only [List.mem_cons, List.not_mem_nil, or_false] at hd
    rcases hd with e | e
    · exact ⟨9, e, by decide, by decide⟩
    · exact ⟨60, e, by decide, by decide⟩
  obtain ⟨_, rfl, _, ⟨_, r2, rfl, ⟨q0, q1⟩, rfl⟩, rfl⟩ := hd
  obtain ⟨k, hk⟩ : ∃ k : Nat, (if (2 * (y : Int) + r2) > 4 then (2 * (y : Int) + r2) else 4) = (k : Int) := by
    by_cases h : (2 * (y : Int) + r2) > 4
    · exact ⟨(2 * (y : Int) + r2).toNat, by rw [if_pos h]; omega⟩
    · exact ⟨4, by rw [if_neg h]; rfl⟩
  have hk2 : 2 * y ≤ k ∧ k ≤ 120 := by
    by_cases h : (2 * (y : Int) + r2) > 4
    · rw [if_pos h] at hk; omega
    · rw [if_neg h] at hk; omega
  rw [hk]
  refine sd_id 3 sc41.nd rfl (.inr rfl) (id_pick (ds := [.int 10, .int 1000, .int (10 ^ 5)]) hs (pd_lst (ad_cons pd_int (ad_cons pd_int (ad_cons (pd_pow (i := 10) (j := 5) pd_int pd_int ⟨by decide, by decide +kernel⟩) ad_nil)))) ((id_draw (i := 0) (B := 3) hs dDr hr (by rfl) rfl (.inr (.inl rfl)) rfl ((id_int (i := 3) pd_int).weak fun d ⟨r, e1, e2⟩ => ⟨r, e1, by omega, by omega⟩) (by decide) (by omega)))) fun d hd => ?_
  obtain ⟨mo, rfl, m1, m2⟩ : ∃ mo : Int, d = .int mo ∧ 1 ≤ mo ∧ mo ≤ 10 ^ 5 := by
    simp only [List.mem_cons, List.not_mem_nil, or_false] at hd
    rcases hd with e | e | e
    · exact ⟨10, e, by decide, by decide⟩
    · exact ⟨1000, e, by decide, by decide⟩
    · exact ⟨10 ^ 5, e, by decide, by decide⟩
  refine sd_idRet (id_tup hs (id_lc (m := k) (j := 4) (Z := fun z => z.natAbs ≤ 10 ^ 5) rfl sc41.nd (blkOk_by (N := ["_law_purse_here", "_law_year", "_law_many", "_law_most", "_law_i"]) (sc := defScope (topS 41)) (by decide +kernel))
    ((iv_range1 (by rfl) m.range (pd_var (i := 2) rfl (.inl rfl) rfl) (by omega)).congr (Int.toNat_natCast k) fun _ _ => rfl) (by omega) (fun _ _ _ _ _ => pg_name sc41.nd rfl (.inl rfl)) (fun i hi Dl s' H' C cl fp => ?_)) (pd_var (i := 1) rfl (.inl rfl) rfl)) fun v d H hd r hv => ?_
  · refine (id_sub (fun a h => List.mem_cons_of_mem _ h) (id_draw (i := 0) (B := 2 * mo) (fun a h => List.mem_cons_of_mem _ h) dDr (hr.mono (by decide)) (by rfl) rfl (.inr (.inl rfl)) rfl ((id_int (pd_mul (i := 2) pd_int (pd_var (i := 3) rfl (.inr (.inl rfl)) rfl) (small_mul (by decide) (by omega)))).weak fun d ⟨r, e1, e2⟩ => ⟨r, e1, by omega, by omega⟩) (by omega) (by omega))
      (id_int (pd_var (i := 3) rfl (.inr (.inl rfl)) rfl))).weak fun d hd => ?_
    obtain ⟨_, rfl, i1, _, ⟨z1, z2⟩, rfl, rfl⟩ := hd
    exact ⟨_, rfl, by omega⟩
  · obtain ⟨_, ⟨l, l1, l2, rfl⟩, rfl⟩ := hd
    refine hD v _ H ⟨l, y, ⟨y2, y12, by omega, by omega, fun x hx => Nat.le_trans (l2 x hx) (by decide)⟩, l2, rfl⟩ ⟨r.1.le (by omega), r.2⟩ hv
theorem ok42 {f : Addr} {fd : FuncData} (F0 : Fun K "_law_pattern" "_law_pattern" (topS 42) f fd) (m : Mg mg) (dDr : Dn P w K mg base "_law_draw" 1 ["_law_purse_here", "_law_out_of"] spDraw) : FnOk P w K mg base CX0 2 f fd ["_law_purse_here", "_law_year"] (spP 20 (fun ds => ∃ y : Nat, ds = [.int (y : Int)] ∧ 2 ≤ y ∧ y ≤ 12) cPat) := by
  refine ok_bodyR F0 sc42 (fun ds ⟨y, e, _⟩ => by rw [e]; rfl) fun cdv A outer s H0 E ds p c n hr hp hn D hD => ?_
  obtain ⟨y, rfl, y2, y12⟩ := hp
  refine sd_idLc (m := y - 1) (j := 3) (Z := fun z => z.natAbs ≤ 1000) 2 rfl sc42.nd rfl rfl (sw_true rfl rfl rfl (by decide +kernel)) (blkOk_by (N := ["_law_purse_here", "_law_year", "_law_found", "_law_k"]) (sc := defScope (topS 42)) (by decide +kernel))
    ((iv_range1 (by rfl) m.range (pd_sub (pd_var (i := 1) rfl (.inl rfl) rfl) pd_int) (by omega)).congr (by omega) fun _ _ => rfl) (by omega) (fun _ _ _ _ _ => pg_name sc42.nd rfl (.inl rfl)) (fun i hi Dl s' H' C cl fp => ?_) fun l l1 l2 => ?_
  · refine (id_sub (fun a h => List.mem_cons_of_mem _ h) (id_draw (i := 0) (B := 2000) (fun a h => List.mem_cons_of_mem _ h) dDr hr (by rfl) rfl (.inr (.inl rfl)) rfl ((id_int (i := 2000) pd_int).weak fun d ⟨r, e1, e2⟩ => ⟨r, e1, by omega, by omega⟩) (by decide) (by omega)) (id_int (i := 1000) pd_int)).weak fun d hd => ?_
    obtain ⟨_, rfl, i1, _, ⟨z1, z2⟩, rfl, rfl⟩ := hd
    exact ⟨_, rfl, by omega⟩
  · refine sd_ret ro_q (pd_cat (pd_var (i := 2) rfl (.inl rfl) rfl) (pd_lst (ad_cons (pd_sub (i := 0) pd_int (pd_sum rfl (by rfl) m.sum (pd_var (i := 2) rfl (.inl rfl) rfl))) ad_nil)) (by rw [List.length_map]; simp; omega)) fun v H r hv => ?_
    have h1 := sum_small l2
    refine hD v _ H ⟨y, l ++ [0 - l.sum], rfl, by rw [List.length_append, l1]; simp; omega, by rw [List.sum_append, List.sum_cons, List.sum_nil]; omega, fun x hx => ?_, ?_⟩ ⟨r.1.le (by omega), r.2⟩ hv
    · rcases List.mem_append.mp hx with h | h
      · exact Nat.le_trans (l2 x h) (by decide)
      · rw [List.mem_singleton.mp h]
        have : l.length * 1000 ≤ 11 * 1000 := Nat.mul_le_mul_right _ (by omega)
        omega
    · unfold dS
      rw [List.map_append]
      rfl
end
end Cv

namespace Cv
open PySem PySem.Spec PyProof.Rows L2
open Evl (Ex)
/-! ### the plain law: a pattern, a level, twice -/
theorem getD_range {n : Nat} {f : Nat → Int} {i : Nat} (h : i < n) : ((List.range n).map f).getD i 0 = f i := by
  rw [List.getD_eq_getElem?_getD, List.getElem?_map, List.getElem?_range h]
  rfl
theorem withP_len (l p : List Int) (y : Nat) : (withP l p y).length = l.length := by unfold withP; rw [List.length_map, List.length_range]
theorem sF_with {l p : List Int} {y i : Nat} (h : i < l.length) : sF (withP l p y) i = sF l i + sF p (i % y) := by
  unfold sF withP
  rw [getD_range h, Rat.intCast_add]
theorem Good.with {l p : List Int} {y : Nat} (g : Good l y) (h : ∀ i, i < l.length → (l.getD i 0 + p.getD (i % y) 0).natAbs ≤ 10 ^ 6) : Good (withP l p y) y :=
  ⟨g.y2, g.y12, by rw [withP_len]; exact g.two, by rw [withP_len]; exact g.most, fun x hx => by
    obtain ⟨i, hi, rfl⟩ := List.mem_map.mp hx
    exact h i (List.mem_range.mp hi)⟩
theorem with_bound {l p : List Int} {a b : Nat} (h1 : ∀ x ∈ l, x.natAbs ≤ a) (h2 : ∀ x ∈ p, x.natAbs ≤ b) (h : a + b ≤ 10 ^ 6) (y i : Nat) : (l.getD i 0 + p.getD (i % y) 0).natAbs ≤ 10 ^ 6 := by
  have := getD_small h1 i
  have := getD_small h2 (i % y)
  omega
section
variable {l p : List Int} {y : Nat} (g : Good l y)
include g
theorem pat_zero (hp : p.length = y) (h0 : p.sum = 0) : qsum y (sF p) = 0 := by
  have h := sum_cut p 0 y (by omega)
  rw [List.drop_zero, List.take_of_length_le (by omega), h0] at h
  have e : qsum y (fun j => sF p (0 + j)) = qsum y (sF p) := qsum_congr fun i _ => by rw [Nat.zero_add]
  rw [← e, ← h]
  rfl
theorem mean_pat (hp : p.length = y) (h0 : p.sum = 0) {i : Nat} (hi : i < l.length) : meanO (withP l p y) y i = meanO l y i := by
  have g1 := g.y2
  unfold meanO
  rw [withP_len]
  by_cases hv : valid l.length y i = true
  · rw [if_pos hv, if_pos hv]
    obtain ⟨h1, h2⟩ := valid_iff.mp hv
    congr 1
    rw [← M_pat (by omega) (sF l) (sF p) (pat_zero g hp h0) i]
    exact M_congr h1 fun j hj => sF_with (by omega)
  · rw [if_neg hv, if_neg hv]
theorem seas_pat' (hp : p.length = y) (h0 : p.sum = 0) {k : Nat} (hk : k < y) : seas (withP l p y).length y (sF (withP l p y)) k = seas l.length y (sF l) k + sF p k := by
  have g1 := g.y2
  rw [withP_len, ← seas_pat (by omega) g.two (sF l) (sF p) (pat_zero g hp h0) hk]
  exact seas_congr hk fun i hi => sF_with hi
theorem adj_pat' (hp : p.length = y) (h0 : p.sum = 0) {i : Nat} (hi : i < l.length) : adj (withP l p y).length y (sF (withP l p y)) i = adj l.length y (sF l) i := by
  have g1 := g.y2
  have hm : i % y < y := Nat.mod_lt _ (by omega)
  unfold adj
  rw [seas_pat' g hp h0 hm, sF_with hi]
  grind
theorem left_pat (hp : p.length = y) (h0 : p.sum = 0) {i : Nat} (hi : i < l.length) : leftO (withP l p y) y i = leftO l y i := by
  have h := mean_pat g hp h0 hi
  unfold leftO
  unfold meanO at h
  rw [withP_len] at h ⊢
  by_cases hv : valid l.length y i = true
  · rw [if_pos hv, if_pos hv] at h
    rw [if_pos hv, if_pos hv]
    have h2 := adj_pat' g hp h0 hi
    rw [withP_len] at h2
    rw [h2, Option.some.inj h]
  · rw [if_neg hv, if_neg hv]
theorem lev_at {t : List Int} {c : Int} (hp : t = List.replicate y c) {i : Nat} (hi : i < l.length) : sF (withP l t y) i = sF l i + (c : Rat) := by
  have g1 := g.y2
  have hm : i % y < y := Nat.mod_lt _ (by omega)
  rw [sF_with hi, hp]
  congr 1
  unfold sF
  rw [List.getD_eq_getElem?_getD, List.getElem?_replicate, if_pos hm]
  rfl
theorem seas_lev' {t : List Int} {c : Int} (hp : t = List.replicate y c) {k : Nat} (hk : k < y) : seas (withP l t y).length y (sF (withP l t y)) k = seas l.length y (sF l) k := by
  have g1 := g.y2
  rw [withP_len, ← seas_lev g1 g.two (sF l) (c : Rat) hk]
  exact seas_congr hk fun i hi => lev_at g hp hi
theorem mean_lev {t : List Int} {c : Int} (hp : t = List.replicate y c) {i : Nat} (hi : i < l.length) : meanO (withP l t y) y i = (meanO l y i).map (· + (c : Rat)) := by
  have g1 := g.y2
  unfold meanO
  rw [withP_len]
  by_cases hv : valid l.length y i = true
  · rw [if_pos hv, if_pos hv]
    obtain ⟨h1, h2⟩ := valid_iff.mp hv
    show some _ = some _
    congr 1
    show M y (sF (withP l t y)) i = M y (sF l) i + (c : Rat)
    rw [← M_lev (by omega) (sF l) (c : Rat) i]
    exact M_congr h1 fun j hj => lev_at g hp (by omega)
  · rw [if_neg hv, if_neg hv]
    rfl
theorem left_lev {t : List Int} {c : Int} (hp : t = List.replicate y c) {i : Nat} (hi : i < l.length) : leftO (withP l t y) y i = leftO l y i := by
  have g1 := g.y2
  have h := mean_lev g hp hi
  have hm : i % y < y := Nat.mod_lt _ (by omega)
  unfold leftO
  unfold meanO at h
  have h2 : adj (withP l t y).length y (sF (withP l t y)) i = adj l.length y (sF l) i + (c : Rat) := by
    unfold adj
    rw [seas_lev' g hp hm, lev_at g hp hi]
    grind
  rw [withP_len] at h h2 ⊢
  by_cases hv : valid l.length y i = true
  · rw [if_pos hv, if_pos hv] at h
    rw [if_pos hv, if_pos hv, h2, Option.some.inj h]
    congr 1
    grind
  · rw [if_neg hv, if_neg hv]
end
theorem sF_two (l : List Int) (i : Nat) : sF (l.map (2 * ·)) i = 2 * sF l i := by
  unfold sF
  rw [List.getD_eq_getElem?_getD, List.getD_eq_getElem?_getD, List.getElem?_map]
  cases l[i]? with
  | none =>
    show ((0 : Int) : Rat) = 2 * ((0 : Int) : Rat)
    rw [show ((0 : Int) : Rat) = 0 from rfl, Rat.mul_zero]
  | some x =>
    show ((2 * x : Int) : Rat) = 2 * ((x : Int) : Rat)
    rw [Rat.intCast_mul]
    rfl
theorem sF_two' (l : List Int) : sF (l.map (2 * ·)) = fun i => 2 * sF l i := by
  funext i
  exact sF_two l i
theorem mean_two (l : List Int) (y i : Nat) : meanO (l.map (2 * ·)) y i = (meanO l y i).map ((2 : Rat) * ·) := by
  unfold meanO
  rw [List.length_map, sF_two', M_smul]
  by_cases hv : valid l.length y i = true
  · rw [if_pos hv, if_pos hv]; rfl
  · rw [if_neg hv, if_neg hv]; rfl
theorem left_two (l : List Int) (y i : Nat) : leftO (l.map (2 * ·)) y i = (leftO l y i).map ((2 : Rat) * ·) := by
  unfold leftO
  rw [List.length_map, sF_two', M_smul, adj_smul]
  by_cases hv : valid l.length y i = true
  · rw [if_pos hv, if_pos hv]
    show some _ = some _
    congr 1
    grind
  · rw [if_neg hv, if_neg hv]; rfl
theorem Good.twice {l : List Int} {y : Nat} (g : Good l y) (h : ∀ x ∈ l, x.natAbs ≤ 10 ^ 5) : Good (l.map (2 * ·)) y := ⟨g.y2, g.y12, by rw [List.length_map]; exact g.two, by rw [List.length_map]; exact g.most, fun x hx => by
  obtain ⟨z, hz, rfl⟩ := List.mem_map.mp hx
  have := h z hz
  show (2 * z).natAbs ≤ 10 ^ 6
  omega⟩
/-! ### the plain law: a line; a pattern upon a flat series -/
def lineL (a b : Int) (n : Nat) : List Int := (List.range n).map fun (i : Nat) => a + b * (i : Int)
theorem lineL_len (a b : Int) (n : Nat) : (lineL a b n).length = n := by unfold lineL; rw [List.length_map, List.length_range]
theorem sF_line {a b : Int} {n i : Nat} (h : i < n) : sF (lineL a b n) i = (a : Rat) + (b : Rat) * (i : Rat) := by
  unfold sF lineL
  rw [getD_range h, Rat.intCast_add, Rat.intCast_mul]
  rfl
section
variable {a b : Int} {n y : Nat} (hy : 2 ≤ y) (hn : 2 * y ≤ n)
include hy hn
theorem seas_lineL {k : Nat} (hk : k < y) : seas n y (sF (lineL a b n)) k = 0 := by
  rw [← seas_line (N := n) hy (a : Rat) (b : Rat) k]
  exact seas_congr hk fun i hi => sF_line hi
theorem adj_lineL {i : Nat} (hi : i < n) : adj n y (sF (lineL a b n)) i = sF (lineL a b n) i := by
  unfold adj
  rw [seas_lineL hy hn (Nat.mod_lt _ (by omega))]
  grind
theorem M_lineL {i : Nat} (h1 : y / 2 ≤ i) (h2 : i + y / 2 < n) : M y (sF (lineL a b n)) i = sF (lineL a b n) i := by
  rw [sF_line (by omega), ← M_line (show 0 < y by omega) (a : Rat) (b : Rat) i h1]
  exact M_congr h1 fun j hj => sF_line (by omega)
end
theorem range_split {α : Type} {n h : Nat} {f : Nat → α} {c : α} (hn : 2 * h ≤ n) (h1 : ∀ i, i < h → f i = c) (h2 : ∀ i, i < n → n ≤ i + h → f i = c) :
    (List.range n).map f = List.replicate h c ++ (List.range (n - 2 * h)).map (fun j => f (h + j)) ++ List.replicate h c := by
  refine List.ext_getElem (by simp; omega) fun i g1 g2 => ?_
  simp only [List.length_map, List.length_range] at g1
  rw [List.getElem_map, List.getElem_range]
  by_cases k1 : i < h
  · rw [List.getElem_append_left (by simp; omega), List.getElem_append_left (by simpa using k1), List.getElem_replicate]
    exact h1 i k1
  · by_cases k2 : i + h < n
    · rw [List.getElem_append_left (by simp; omega), List.getElem_append_right (by simp; omega), List.getElem_map, List.getElem_range]
      congr 1
      simp
      omega
    · rw [List.getElem_append_right (by simp; omega), List.getElem_replicate]
      exact h2 i g1 (by omega)
theorem flat_rep {α : Type} (n : Nat) (d : α) : (List.replicate n [d]).flatten = List.replicate n d := by
  induction n with
  | zero => rfl
  | succ n ih => rw [List.replicate_succ, List.flatten_cons, ih, List.replicate_succ]; rfl
theorem range_const {α : Type} (n : Nat) (d : α) : (List.range n).map (fun _ => d) = List.replicate n d := by
  refine List.ext_getElem (by simp) fun i h1 h2 => ?_
  simp
theorem flat_eq (n : Nat) (c : Int) : lineL c 0 n = List.replicate n c := by
  unfold lineL
  rw [← range_const]
  exact List.map_congr_left fun i _ => by rw [Int.zero_mul, Int.add_zero]
end Cv

namespace Cv
open PySem PySem.Spec PyProof.Rows L2
open Evl (Ex)
/-! ### a list of (def, data), and the for over it -/
def Tups (ex : List Addr) (H : Hp) (d : PyData) (vs : List V) (fs : List Addr) : Prop := vs.length = fs.length ∧ ∀ (i : Nat) (v : V), vs[i]? = some v → ∃ (f t : Addr) (u : V), fs[i]? = some f ∧ v = .ref t ∧ t ∉ ex ∧ H t = some (.tup [.ref f, u]) ∧ Dq (era ex H) u d
def FD (X : Cx) (ex : List Addr) (Γ : List Sl) (es : List Expr) (fs : List Addr) (d : PyData) : Prop :=
  ∀ (σ : L2.St) (H : Hp), EnvOk (era ex H) σ Γ → Al ex H → ∀ Q : List V → Hp → Prop, (∀ vs H2, Ex H H2 → Tups ex H2 d vs fs → Q vs H2) → WA X es σ H Q
section
variable {X : Cx} {ex : List Addr} {Γ : List Sl} {e : Expr} {es : List Expr} {fs : List Addr} {f : Addr} {d : PyData} {R : Hp → Prop} {D : Ends} {rest body : List Stmt} {pos : Pos}
theorem fd_nil : FD X ex Γ [] [] d := fun σ H E A Q q => wa_of pa_nil (q [] H (Evl.Ex.refl H) ⟨rfl, fun i v h => by simp at h⟩)
theorem fd_cons {x : Str} {xp tp : Pos} {k : Nat} (hg : Gl X x) (hm : X.mg x = some (.ref f)) (he : PD X ex Γ e d) (hr : FD X ex Γ es fs d) (hd : (x == ("__debug__" : Str)) = false := by decide)
    (hs : starEach (.Tuple [.Name x xp, e] k tp :: es) X.env = (false, eval (.Tuple [.Name x xp, e] k tp) X.env) :: starEach es X.env := by rfl) (hs1 : starEach [.Name x xp, e] X.env = (false, eval (.Name x xp) X.env) :: starEach [e] X.env := by rfl) (hs2 : starEach [e] X.env = (false, eval e X.env) :: starEach [] X.env := by rfl) :
    FD X ex Γ (.Tuple [.Name x xp, e] k tp :: es) (f :: fs) d := fun σ H E A Q q => by
  refine wa_of (pa_cons (pe_tup (pa_cons (pe_glob (v := .ref f) hg hm rfl hd) (pa_cons pe_w pa_nil hs2) hs1)) pa_w hs) ?_
  refine he σ H E A _ fun u H1 e1 h1 => ?_
  refine ⟨len_line (by simp), fun t ht => ?_⟩
  have A1 := A.up e1
  have e2 := e1.trans (Evl.Ex.new (o := .tup [.ref f, u]) ht)
  refine hr σ _ (E.up (era_ex e2)) (A.up e2) _ fun vs H2 e3 t2 => ?_
  refine q _ H2 (e2.trans e3) ⟨by rw [List.length_cons, List.length_cons, t2.1], fun i v hv => ?_⟩
  cases i with
  | zero =>
    rw [List.getElem?_cons_zero] at hv
    cases hv
    exact ⟨f, t, u, rfl, rfl, A1.out ht, e3 t _ upd_same, h1.up (era_ex ((Evl.Ex.new ht).trans e3))⟩
  | succ i =>
    rw [List.getElem?_cons_succ] at hv
    obtain ⟨f', t', u', a1, a2⟩ := t2.2 i v hv
    exact ⟨f', t', u', by rw [List.getElem?_cons_succ]; exact a1, a2⟩
theorem sd_forF {x y : Str} {px py tp lp : Pos} {kk : Nat} (i j : Nat) (hc : X.calm = true) (hp : PassesOwn (model X.prog X.w) X.A X.env X.xe) (hR : RO ex R) (hf : FD X ex Γ es fs d) (hl : fs.length ≤ 100)
    (hg : PG X (.Tuple [.Name x px, .Name y py] kk tp) (gTup X.K 2 (gCons (gName i) (gCons (gName j) gNil))))
    (step : ∀ f, f ∈ fs → ∀ Hb, SD X ex (fun H => Ex (era ex Hb) (era ex H) ∧ R H) ⟨NX ex Γ (fun H => Ex (era ex Hb) (era ex H) ∧ R H), D.rt, WS X rest D, NX ex Γ (fun H => Ex (era ex Hb) (era ex H) ∧ R H)⟩ ((Γ.set i (.val (.ref f))).set j (.dat d)) body)
    (after : SD X ex R D Γ rest) (hs : ∀ x, foldedSetIterable (.List es lp) X.env x = pure x := by intro _; rfl) : SD X ex R D Γ (.For (.Tuple [.Name x px, .Name y py] kk tp) (.List es lp) body [] pos :: rest) := fun σ H E q => by
  refine ws_cons (ps_for hp hc (pi_list (pe_lst pa_w)) hg pss_w hs) ?_
  refine hf σ H E (hR.al H q) _ fun vs H1 e1 t1 => ?_
  refine ⟨len_line (by rw [t1.1]; omega), fun l hl => ?_⟩
  have A1 := (hR.al H q).up e1
  have e2 : Ex H1 (upd H1 l (.lst vs)) := Evl.Ex.new hl
  refine ⟨l, rfl, ⟨vs, SqL.of upd_same⟩, ?_⟩
  have W := (walk_list (K := X.K) (a := l) (xs := vs)).mono (G' := fun H' => Ex (era ex (upd H1 l (.lst vs))) (era ex H')) (fun H' z => SqL.of ((era_some (z l (.lst vs) (by rw [era_at (A1.out hl)]; exact upd_same))).2)) fun i H x H' hi _ y => y
  refine for_it W (fun i σ' H' => EnvOk (era ex H') σ' Γ ∧ Ex (era ex (upd H1 l (.lst vs))) (era ex H') ∧ R H') ⟨E.up (era_ex (e1.trans e2)), Evl.Ex.refl _, hR.up _ _ q (e1.trans e2)⟩ (fun i σ' H' _ p => p.2.1) (fun i x σ' H' H'' hi p y => ?_) (fun σ' H' p => after σ' H' p.1 p.2.2)
  obtain ⟨p1, p2, p3⟩ := p
  obtain ⟨rfl, y⟩ := y
  obtain ⟨f, t, u, g1, rfl, g3, g4, g5⟩ := t1.2 i x y
  have g6 : era ex (upd H1 l (.lst vs)) t = some (.tup [.ref f, u]) := by rw [era_at g3]; exact e2 t _ g4
  refine ⟨t, [.ref f, u], rfl, SqT.of (era_some (p2 _ _ g6)).2, rfl, .ref f, [u], rfl, u, [], rfl, rfl, ?_⟩
  exact step f (List.mem_of_getElem? g1) _ _ _ ((p1.setV).setD (g5.up ((era_ex e2).trans p2))) ⟨p2, p3⟩
theorem pd_callL {i k : Nat} {x : Str} {p : Pos} {fd : FuncData} {ps : List Str} {C : List PyData → PyData → Prop} {es : List Expr} {ds : List PyData} (F : FnOk X.prog X.w X.K X.mg X.base CX0 k f fd ps (spD C)) (hk : PySem.W.keepIn X.K (.ref f) = true) (hb : Binds X.K fd ps []) (hr : Room k X.A)
    (hN : X.N[i]? = some x) (hv : Vis X.env.scope x) (hG : Γ[i]? = some (.val (.ref f))) (ha : AD X ex Γ (e :: es) ds) (hC : C ds d)
    (hdb : (x == ("__debug__" : Str)) = false := by decide) (hcd : (x == ("__classdict__" : Str)) = false := by decide) (he : starEach (e :: es) X.env = (false, eval e X.env) :: starEach es X.env := by rfl) (hpl : (backTo pos (starEach es X.env)).any (·.1) = false := by rfl) :
    PD X ex Γ (.Call (.Name x p) (e :: es) [] pos) d := fun σ H E A Q q => by
  refine we_of (pe_callL (i := i) F hr hN hv hk hb .nil pass0 pa_w hdb hcd he hpl) ?_
  refine ⟨E.val hG, ?_⟩
  refine ha σ H E A _ fun vs H1 e1 h1 => ?_
  rw [List.append_nil]
  exact ⟨ex, ds, d, hC, A.up e1, h1, fun v H2 e2 h2 => q v H2 (e1.trans e2) h2⟩
end
end Cv

namespace Cv
open PySem PySem.Spec PyProof.Rows L2
open Evl (Ex)
def pre46 (ds : List PyData) : Prop := ∃ (l : List Int) (y : Nat), ds = [dS l, .int (y : Int)] ∧ Good l y ∧ ∀ x ∈ l, x.natAbs ≤ 10 ^ 5
def pre48 (ds : List PyData) : Prop := ∃ (y n : Nat), ds = [.int (y : Int), .int (n : Int)] ∧ 2 ≤ y ∧ y ≤ 12 ∧ 2 * y ≤ n ∧ n ≤ 120
def cTrue (ds : List PyData) (d : PyData) : Prop := d = .bool true
abbrev N46 : List Str := ["_law_purse_here", "_law_series", "_law_year", "_law_shape_here", "_law_more", "_law_step", "_law_level", "_law_twice", "_law_one", "_law_other", "_law_i", "_law_num"]
abbrev N48 : List Str := ["_law_purse_here", "_law_year", "_law_many", "_law_begin", "_law_step", "_law_line", "_law_half", "_law_inner", "_law_shape_here", "_law_round_and", "_law_i", "_law_num"]
theorem sc46 : FnScope N46 ["_law_purse_here", "_law_series", "_law_year"] (defScope (topS 46)) := ⟨rfl, rfl, rfl, by decide +kernel, rfl, by decide +kernel, by decide +kernel⟩
theorem sc48 : FnScope N48 ["_law_purse_here", "_law_year", "_law_many"] (defScope (topS 48)) := ⟨rfl, rfl, rfl, by decide +kernel, rfl, by decide +kernel, by decide +kernel⟩
theorem dS_rep (n : Nat) (c : Int) : dS (List.replicate n c) = .list (List.replicate n [PyData.int c]).flatten := by
  rw [flat_rep]
  unfold dS
  rw [List.map_replicate]
theorem dFs_rep (n : Nat) (c : Rat) : PyData.list (List.replicate n [dF c]).flatten = dFs n (fun _ => c) := by
  rw [flat_rep]
  unfold dFs
  rw [range_const]
theorem with_data (l p : List Int) (y : Nat) : PyData.list ((List.range l.length).map fun i => PyData.int (l.getD i 0 + p.getD (i % y) 0)) = dS (withP l p y) := by
  unfold withP dS
  rw [List.map_map]
  rfl
theorem nums_data (p : List Int) : PyData.list ((List.range p.length).map fun i => dF (sF p i)) = dFs p.length (sF p) := rfl
theorem twice_data (l : List Int) : (List.range l.length).map (fun i => PyData.int (2 * l.getD i 0)) = (l.map (2 * ·)).map PyData.int := by
  refine List.ext_getElem (by simp) fun i h1 h2 => ?_
  have hi : i < l.length := by simpa using h2
  rw [List.getElem_map, List.getElem_map, List.getElem_map, List.getElem_range, List.getD_eq_getElem?_getD, List.getElem?_eq_getElem hi]
  rfl
theorem getD_rep {n i : Nat} {c : Int} (h : i < n) : (List.replicate n c).getD i 0 = c := by
  rw [List.getD_eq_getElem?_getD, List.getElem?_replicate, if_pos h]
  rfl
theorem rep_small {n b : Nat} {c : Int} (h : c.natAbs ≤ b) : ∀ x ∈ List.replicate n c, x.natAbs ≤ b := fun x hx => by
  rw [(List.mem_replicate.mp hx).2]
  exact h
section
variable {l : List Int} {y : Nat} (g : Good l y)
include g
theorem sm_mean {i : Nat} {r : Rat} (h : meanO l y i = some r) : Sm r := by
  unfold meanO at h
  by_cases hv : valid l.length y i = true
  · rw [if_pos hv] at h
    cases h
    exact g.ser.sm (g.ser.c_M i) (by omega)
  · rw [if_neg hv] at h
    cases h
theorem sm_left {i : Nat} {r : Rat} (h : leftO l y i = some r) : Sm r := by
  unfold leftO at h
  by_cases hv : valid l.length y i = true
  · rw [if_pos hv] at h
    cases h
    exact g.ser.sm ((g.ser.c_adj i).sub (g.ser.c_M i)) (by omega)
  · rw [if_neg hv] at h
    cases h
theorem sm_seas {k : Nat} (hk : k < y) : Sm (seas l.length y (sF l) k) := g.ser.sm (g.ser.c_seas hk) (by have := two801; omega)
theorem sm_adj (i : Nat) : Sm (adj l.length y (sF l) i) := g.ser.sm (g.ser.c_adj i) (by omega)
end
theorem seas_twoD (l : List Int) (y : Nat) : dOs y (fun i => (some (seas l.length y (sF l) i)).map ((2 : Rat) * ·)) = .list ((List.range y).map fun k => dF (seas (l.map (2 * ·)).length y (sF (l.map (2 * ·))) k)) := by
  rw [List.length_map, sF_two']
  show dFs y (fun i => 2 * seas l.length y (sF l) i) = dFs y (fun k => seas l.length y (fun i => 2 * sF l i) k)
  exact dFs_congr fun k _ => (seas_smul (sF l) 2 k).symm
theorem adj_twoD (l : List Int) (y : Nat) : dOs l.length (fun i => (some (adj l.length y (sF l) i)).map ((2 : Rat) * ·)) = .list ((List.range (l.map (2 * ·)).length).map fun k => dF (adj (l.map (2 * ·)).length y (sF (l.map (2 * ·))) k)) := by
  rw [List.length_map, sF_two']
  show dFs l.length (fun i => 2 * adj l.length y (sF l) i) = dFs l.length (fun k => adj l.length y (fun i => 2 * sF l i) k)
  exact dFs_congr fun k _ => (adj_smul (sF l) 2 k).symm
theorem sm_sF {p : List Int} {b : Nat} (h : ∀ x ∈ p, x.natAbs ≤ b) (hb : b < 2 ^ 64) (i : Nat) : Sm (sF p i) := sm_int (Nat.lt_of_le_of_lt (getD_small h i) hb)
section
variable {P : Program} {w : World} {K : PySem.W.Frag} {mg : Str → Option Value} {base : Heap}
theorem ok46 {f : Addr} {fd : FuncData} (F0 : Fun K "_law_pattern_right" "_law_pattern_right" (topS 46) f fd) (m : Mg mg) (dDr : Dn P w K mg base "_law_draw" 1 ["_law_purse_here", "_law_out_of"] spDraw)
    (dPa : Dn P w K mg base "_law_pattern" 2 ["_law_purse_here", "_law_year"] (spP 20 (fun ds => ∃ y : Nat, ds = [.int (y : Int)] ∧ 2 ≤ y ∧ y ≤ 12) cPat))
    (dWP : Dn P w K mg base "with_pattern" 4 ["series", "year", "pattern"] (spD cWP)) (dTr : Dn P w K mg base "trend" 5 ["series", "year"] (spD cMeans)) (dLe : Dn P w K mg base "left_over" 7 ["series", "year"] (spD cLeft))
    (dSe : Dn P w K mg base "seasons" 6 ["series", "year"] (spD cSL)) (dAd : Dn P w K mg base "adjusted" 7 ["series", "year"] (spD cAdjL)) (dPA : Dn P w K mg base "_law_plus_all" 4 ["_law_some", "_law_more"] (spD cPA)) (dTA : Dn P w K mg base "_law_times_all" 3 ["_law_some", "_law_num"] (spD cTA)) :
    FnOk P w K mg base CX0 8 f fd ["_law_purse_here", "_law_series", "_law_year"] (spP 30 pre46 cTrue) := by
  refine ok_bodyR F0 sc46 (fun ds ⟨l, y, e, _⟩ => by rw [e]; rfl) fun cdv A outer s H0 E ds p c n hr hp hn D hD => ?_
  obtain ⟨l, y, rfl, g, hl5⟩ := hp
  have hs : ∀ a ∈ [p, c], a ∈ [p, c] := fun a h => h
  have g1 := g.y2
  have g2 := g.y12
  have g3 := g.two
  have g4 := g.most
  refine sd_id 3 sc46.nd rfl (.inr rfl) (id_call dPa (hr.mono (by decide)) (by rfl) (i := 0) rfl (.inl rfl) rfl (ad_cons (pd_var (i := 2) rfl (.inr (.inl rfl)) rfl) ad_nil) ⟨y, rfl, g1, g2⟩ (by omega)) fun d hd => ?_
  obtain ⟨y', sh, e, hp, h0, hb, rfl⟩ := hd
  obtain rfl : y = y' := by
    injection e with e _
    injection e with e
    exact Int.ofNat.inj e
  have hwb := with_bound (y := y) hl5 hb (by decide)
  have G := g.with (p := sh) fun i _ => hwb i
  refine sd_set 4 ro_q sc46.nd rfl (.inl rfl) (pd_call dWP (hr.mono (by decide)) (by rfl) (ad_cons (pd_var (i := 1) rfl (.inl rfl) rfl) (ad_cons (pd_var (i := 2) rfl (.inr (.inl rfl)) rfl) (ad_cons (pd_var (i := 3) rfl (.inr (.inl rfl)) rfl) ad_nil))) ⟨l, sh, y, rfl, g, hp, fun i _ => hwb i, rfl⟩) ?_
  refine sd_skip ro_q (td_ne_same hr.units (pd_var (i := 4) rfl (.inl rfl) rfl) ((pd_lc rfl sc46.nd (lc_pair (i := 10) (j := 11) (n := l.length) (d1 := fun k => .int (k : Nat)) (d2 := fun k => .int (l.getD k 0)) (yd := fun i => .int (l.getD i 0 + sh.getD (i % y) 0)) (by decide) (blkOk_by (N := N46) (sc := defScope (topS 46)) (by decide +kernel))
    ((iv_enum (by rfl) m.enum (pd_var (i := 1) rfl (.inl rfl) rfl)).congr (by rw [List.length_map]) (fun i hi => by rw [List.length_map] at hi; rw [ints_getD hi])) (by omega) (fun _ _ _ _ _ => pg_tup rfl (pgs_cons (pg_name (i := 10) sc46.nd rfl (.inl rfl)) (pgs_cons (pg_name (i := 11) sc46.nd rfl (.inl rfl)) pgs_nil))) (fun i hi Dl s' H' C cl fp => ?_))).to (with_data l sh y)) (shp_Is _)) ?_
  · have hm : i % y < y := Nat.mod_lt _ (by omega)
    exact pd_add (pd_var (i := 11) rfl (.inl rfl) rfl) (pd_ixL (pd_var (i := 3) rfl (.inr (.inl rfl)) rfl) (pd_mod (pd_var (i := 10) rfl (.inl rfl) rfl) (pd_var (i := 2) rfl (.inr (.inl rfl)) rfl) (by omega)) (by rw [modc]; exact list_at (by omega)))
  -- trend, left_over
  have eTr : dOs (withP l sh y).length (meanO (withP l sh y) y) = dOs l.length (meanO l y) := by
    rw [withP_len]
    exact dOs_congr fun i hi => mean_pat g hp h0 hi
  have eLe : dOs (withP l sh y).length (leftO (withP l sh y) y) = dOs l.length (leftO l y) := by
    rw [withP_len]
    exact dOs_congr fun i hi => left_pat g hp h0 hi
  refine sd_skip ro_q ((tw_or (x := false) (y := false) (td_ne_same hr.units ((pd_call dTr (hr.mono (by decide)) (by rfl) (ad_cons (pd_var (i := 4) rfl (.inl rfl) rfl) (ad_cons (pd_var (i := 2) rfl (.inr (.inl rfl)) rfl) ad_nil)) ⟨_, y, rfl, G, rfl⟩).to eTr)
      (pd_call dTr (hr.mono (by decide)) (by rfl) (ad_cons (pd_var (i := 1) rfl (.inl rfl) rfl) (ad_cons (pd_var (i := 2) rfl (.inr (.inl rfl)) rfl) ad_nil)) ⟨l, y, rfl, g, rfl⟩) (shp_os _ _)) fun _ =>
    tw_or1 (td_ne_same hr.units ((pd_call dLe (hr.mono (by decide)) (by rfl) (ad_cons (pd_var (i := 4) rfl (.inl rfl) rfl) (ad_cons (pd_var (i := 2) rfl (.inr (.inl rfl)) rfl) ad_nil)) ⟨_, y, rfl, G, rfl⟩).to eLe)
      (pd_call dLe (hr.mono (by decide)) (by rfl) (ad_cons (pd_var (i := 1) rfl (.inl rfl) rfl) (ad_cons (pd_var (i := 2) rfl (.inr (.inl rfl)) rfl) ad_nil)) ⟨l, y, rfl, g, rfl⟩) (shp_os _ _))).td) ?_
  -- seasons
  have eSe : dFs y (seas (withP l sh y).length y (sF (withP l sh y))) = dOs y fun k => (some (seas l.length y (sF l) k)).map (· + sF sh k) :=
    (dFs_congr fun k hk => seas_pat' g hp h0 hk)
  refine sd_skip ro_q (td_ne_same hr.units ((pd_call dSe (hr.mono (by decide)) (by rfl) (ad_cons (pd_var (i := 4) rfl (.inl rfl) rfl) (ad_cons (pd_var (i := 2) rfl (.inr (.inl rfl)) rfl) ad_nil)) ⟨_, y, rfl, G, rfl⟩).to eSe)
    (pd_call dPA (hr.mono (by decide)) (by rfl) (ad_cons (pd_call dSe (hr.mono (by decide)) (by rfl) (ad_cons (pd_var (i := 1) rfl (.inl rfl) rfl) (ad_cons (pd_var (i := 2) rfl (.inr (.inl rfl)) rfl) ad_nil)) ⟨l, y, rfl, g, rfl⟩) (ad_cons ((pd_lc rfl sc46.nd (lc_one (j := 11) (n := sh.length) (yd := fun i => dF (sF sh i)) (blkOk_by (N := N46) (sc := defScope (topS 46)) (by decide +kernel))
      ((iv_list (pd_var (i := 3) rfl (.inr (.inl rfl)) rfl)).congr (by rw [List.length_map]) fun _ _ => rfl) (by omega) (fun _ _ _ _ _ => pg_name sc46.nd rfl (.inl rfl)) fun i hi Dl s' H' C cl fp => ?_)).to (show _ = dFs y (sF sh) by rw [hp]; rfl)) ad_nil))
      ⟨y, fun k => some (seas l.length y (sF l) k), sF sh, rfl, by omega, fun i r hi hr' => ?_, rfl⟩) (shp_os _ _)) ?_
  · rw [ints_getD hi]
    exact pd_tup (ad_cons (pd_var (i := 11) rfl (.inl rfl) rfl) (ad_cons pd_int ad_nil))
  · cases hr'
    refine ⟨sm_seas g hi, sm_sF hb (by decide) i, ?_⟩
    rw [← seas_pat' g hp h0 hi]
    exact sm_seas G hi
  -- a step
  refine sd_id 5 sc46.nd rfl (.inl rfl) (id_sub hs (id_draw (i := 0) (B := 2000) hs dDr (hr.mono (by decide)) (by rfl) rfl (.inl rfl) rfl ((id_int (i := 2000) pd_int).weak fun d ⟨r, e1, e2⟩ => ⟨r, e1, by omega, by omega⟩) (by decide) (by omega)) (id_int (i := 1000) pd_int)) fun d hd => ?_
  obtain ⟨_, rfl, i1, _, ⟨z1, z2⟩, rfl, rfl⟩ := hd
  obtain ⟨st, hst⟩ : ∃ st : Int, st = i1 - 1000 := ⟨_, rfl⟩
  rw [← hst]
  have hst2 : st.natAbs ≤ 1000 := by omega
  have hb2 := rep_small (n := y) hst2
  have hwb2 := with_bound (y := y) hl5 hb2 (by decide)
  have G2 := g.with (p := List.replicate y st) fun i _ => hwb2 i
  refine sd_set 6 ro_q sc46.nd rfl (.inl rfl) (pd_call dWP (hr.mono (by decide)) (by rfl) (ad_cons (pd_var (i := 1) rfl (.inl rfl) rfl) (ad_cons (pd_var (i := 2) rfl (.inr (.inl rfl)) rfl) (ad_cons ((pd_rep (pd_lst (ad_cons (pd_var (i := 5) rfl (.inl rfl) rfl) ad_nil)) (pd_var (i := 2) rfl (.inr (.inl rfl)) rfl) (by omega) (by omega) (Nat.le_of_ble_eq_true rfl)).to (show _ = dS (List.replicate y st) by rw [dS_rep, Int.toNat_natCast])) ad_nil)))
    ⟨l, List.replicate y st, y, rfl, g, List.length_replicate, fun i _ => hwb2 i, rfl⟩) ?_
  have eSe2 : dFs y (seas (withP l (List.replicate y st) y).length y (sF (withP l (List.replicate y st) y))) = dFs y (seas l.length y (sF l)) := dFs_congr fun k hk => seas_lev' g rfl hk
  have eLe2 : dOs (withP l (List.replicate y st) y).length (leftO (withP l (List.replicate y st) y) y) = dOs l.length (leftO l y) := by
    rw [withP_len]
    exact dOs_congr fun i hi => left_lev g rfl hi
  have eTr2 : dOs (withP l (List.replicate y st) y).length (meanO (withP l (List.replicate y st) y) y) = dOs l.length (fun i => (meanO l y i).map (· + (st : Rat))) := by
    rw [withP_len]
    exact dOs_congr fun i hi => mean_lev g rfl hi
  refine sd_skip ro_q ((tw_or (x := false) (y := false) (td_ne_same hr.units ((pd_call dSe (hr.mono (by decide)) (by rfl) (ad_cons (pd_var (i := 6) rfl (.inl rfl) rfl) (ad_cons (pd_var (i := 2) rfl (.inr (.inl rfl)) rfl) ad_nil)) ⟨_, y, rfl, G2, rfl⟩).to eSe2)
      (pd_call dSe (hr.mono (by decide)) (by rfl) (ad_cons (pd_var (i := 1) rfl (.inl rfl) rfl) (ad_cons (pd_var (i := 2) rfl (.inr (.inl rfl)) rfl) ad_nil)) ⟨l, y, rfl, g, rfl⟩) (shp_fs _ _)) fun _ =>
    tw_or1 (td_ne_same hr.units ((pd_call dLe (hr.mono (by decide)) (by rfl) (ad_cons (pd_var (i := 6) rfl (.inl rfl) rfl) (ad_cons (pd_var (i := 2) rfl (.inr (.inl rfl)) rfl) ad_nil)) ⟨_, y, rfl, G2, rfl⟩).to eLe2)
      (pd_call dLe (hr.mono (by decide)) (by rfl) (ad_cons (pd_var (i := 1) rfl (.inl rfl) rfl) (ad_cons (pd_var (i := 2) rfl (.inr (.inl rfl)) rfl) ad_nil)) ⟨l, y, rfl, g, rfl⟩) (shp_os _ _))).td) ?_
  refine sd_skip ro_q (td_ne_same hr.units ((pd_call dTr (hr.mono (by decide)) (by rfl) (ad_cons (pd_var (i := 6) rfl (.inl rfl) rfl) (ad_cons (pd_var (i := 2) rfl (.inr (.inl rfl)) rfl) ad_nil)) ⟨_, y, rfl, G2, rfl⟩).to eTr2)
    (pd_call dPA (hr.mono (by decide)) (by rfl) (ad_cons (pd_call dTr (hr.mono (by decide)) (by rfl) (ad_cons (pd_var (i := 1) rfl (.inl rfl) rfl) (ad_cons (pd_var (i := 2) rfl (.inr (.inl rfl)) rfl) ad_nil)) ⟨l, y, rfl, g, rfl⟩) (ad_cons ((pd_rep (pd_lst (ad_cons ((pd_tup (ad_cons (pd_var (i := 5) rfl (.inl rfl) rfl) (ad_cons pd_int ad_nil))).to (dF_int st)) ad_nil)) (pd_len (by rfl) m.len (pd_var (i := 1) rfl (.inl rfl) rfl)) (by omega) (by rw [List.length_map]; omega) (Nat.le_of_ble_eq_true rfl)).to
      (show _ = dFs l.length (fun _ => (st : Rat)) by rw [List.length_map, Int.toNat_natCast, dFs_rep])) ad_nil))
      ⟨l.length, meanO l y, fun _ => (st : Rat), rfl, by omega, fun i r hi hr' => ?_, rfl⟩) (shp_os _ _)) ?_
  · refine ⟨sm_mean g hr', sm_int (by omega), ?_⟩
    have h := mean_lev g (c := st) rfl hi
    rw [hr'] at h
    exact sm_mean G2 h
  -- twice
  have G3 := g.twice hl5
  refine sd_setLc 7 ro_q rfl sc46.nd rfl rfl (sw_true rfl rfl rfl (by decide +kernel)) (lc_one (j := 11) (n := l.length) (yd := fun i => .int (2 * l.getD i 0)) (blkOk_by (N := N46) (sc := defScope (topS 46)) (by decide +kernel))
    ((iv_list (pd_var (i := 1) rfl (.inl rfl) rfl)).congr (by rw [List.length_map]) fun _ _ => rfl) (by omega) (fun _ _ _ _ _ => pg_name sc46.nd rfl (.inl rfl)) fun i hi Dl s' H' C cl fp => ?_) ?_
  · rw [ints_getD hi]
    have := getD_small g.small i
    exact pd_mul (i := 2) pd_int (pd_var (i := 11) rfl (.inl rfl) rfl) (small_mul (by decide) (by omega))
  rw [twice_data]
  obtain ⟨f1, fd1, F1, m1, k1, b1⟩ := dTr.ex
  obtain ⟨f2, fd2, F2, m2, k2, b2⟩ := dSe.ex
  obtain ⟨f3, fd3, F3, m3, k3, b3⟩ := dAd.ex
  obtain ⟨f4, fd4, F4, m4, k4, b4⟩ := dLe.ex
  refine sd_forF (fs := [f1, f2, f3, f4]) (d := dS (l.map (2 * ·))) 8 9 rfl PassesOwn.never ro_q (fd_cons (by rfl) m1 (pd_var (i := 7) rfl (.inl rfl) rfl) (fd_cons (by rfl) m2 (pd_var (i := 7) rfl (.inl rfl) rfl) (fd_cons (by rfl) m3 (pd_var (i := 7) rfl (.inl rfl) rfl) (fd_cons (by rfl) m4 (pd_var (i := 7) rfl (.inl rfl) rfl) fd_nil)))) (Nat.le_of_ble_eq_true rfl)
    (pg_tup rfl (pgs_cons (pg_name (i := 8) sc46.nd rfl (.inl rfl)) (pgs_cons (pg_name (i := 9) sc46.nd rfl (.inl rfl)) pgs_nil))) (fun ff hff Hb => ?_) ?_
  · obtain ⟨fd, k', C, m', o, hk', F, hkeep, hbind, c1, c2, hm', hsm⟩ : ∃ (fd : FuncData) (k' : Nat) (C : List PyData → PyData → Prop) (m' : Nat) (o : Nat → Option Rat), k' ≤ 7 ∧ FnOk P w K mg base CX0 k' ff fd ["series", "year"] (spD C) ∧ PySem.W.keepIn K (.ref ff) = true ∧ Binds K fd ["series", "year"] [] ∧
        C [dS l, .int (y : Int)] (dOs m' o) ∧ C [dS (l.map (2 * ·)), .int (y : Int)] (dOs m' fun i => (o i).map ((2 : Rat) * ·)) ∧ m' ≤ 200 ∧ (∀ i r, i < m' → o i = some r → Sm r) := by
      simp only [List.mem_cons, List.not_mem_nil, or_false] at hff
      rcases hff with rfl | rfl | rfl | rfl
      · exact ⟨fd1, 5, cMeans, l.length, meanO l y, by decide, F1, k1, b1, ⟨l, y, rfl, g, rfl⟩, ⟨_, y, rfl, G3, by rw [List.length_map]; exact dOs_congr fun i _ => (mean_two l y i).symm⟩, by omega, fun i r _ h => sm_mean g h⟩
      · exact ⟨fd2, 6, cSL, y, fun k => some (seas l.length y (sF l) k), by decide, F2, k2, b2, ⟨l, y, rfl, g, rfl⟩, ⟨_, y, rfl, G3, seas_twoD l y⟩, by omega, fun i r hi h => by cases h; exact sm_seas g hi⟩
      · exact ⟨fd3, 7, cAdjL, l.length, fun k => some (adj l.length y (sF l) k), by decide, F3, k3, b3, ⟨l, y, rfl, g, rfl⟩, ⟨_, y, rfl, G3, adj_twoD l y⟩, by omega, fun i r hi h => by cases h; exact sm_adj g i⟩
      · exact ⟨fd4, 7, cLeft, l.length, leftO l y, by decide, F4, k4, b4, ⟨l, y, rfl, g, rfl⟩, ⟨_, y, rfl, G3, by rw [List.length_map]; exact dOs_congr fun i _ => (left_two l y i).symm⟩, by omega, fun i r _ h => sm_left g h⟩
    refine sd_skip (ro_q.base Hb) (td_ne_same hr.units (pd_callL F hkeep hbind (hr.mono hk') (i := 8) rfl (.inl rfl) rfl (ad_cons (pd_var (i := 9) rfl (.inl rfl) rfl) (ad_cons (pd_var (i := 2) rfl (.inr (.inl rfl)) rfl) ad_nil)) c2)
        (pd_call dTA (hr.mono (by decide)) (by rfl) (ad_cons (pd_callL F hkeep hbind (hr.mono hk') (i := 8) rfl (.inl rfl) rfl (ad_cons (pd_var (i := 1) rfl (.inl rfl) rfl) (ad_cons (pd_var (i := 2) rfl (.inr (.inl rfl)) rfl) ad_nil)) c1) (ad_cons pd_int ad_nil)) ⟨m', o, 2, rfl, hm', by decide, hsm, rfl⟩) (shp_os _ _)) ?_
    exact sd_nil fun σ H E' q => ⟨E'.less (less_by rfl fun i hi => by
        match i, hi with
        | 0, _ => exact .inr rfl
        | 1, _ => exact .inr rfl
        | 2, _ => exact .inr rfl
        | 3, _ => exact .inr rfl
        | 4, _ => exact .inr rfl
        | 5, _ => exact .inr rfl
        | 6, _ => exact .inr rfl
        | 7, _ => exact .inr rfl
        | 8, _ => exact .inl rfl
        | 9, _ => exact .inl rfl
        | 10, _ => exact .inr rfl
        | 11, _ => exact .inr rfl), q⟩
  · exact sd_ret ro_q pd_bool fun v H r hv => hD v _ H rfl ⟨r.1.le (by omega), r.2⟩ hv
end
end Cv

namespace Cv
open PySem PySem.Spec PyProof.Rows L2
open Evl (Ex)
theorem line_getD {a b : Int} {n i : Nat} (h : i < n) : (lineL a b n).getD i 0 = a + b * (i : Int) := by
  unfold lineL
  exact getD_range h
theorem line_good {a b : Int} {n y : Nat} (h1 : 2 ≤ y) (h2 : y ≤ 12) (h3 : 2 * y ≤ n) (h4 : n ≤ 120) (ha : a.natAbs ≤ 1000) (hb : b.natAbs ≤ 100) : Good (lineL a b n) y := by
  refine ⟨h1, h2, by rw [lineL_len]; exact h3, by rw [lineL_len]; exact h4, fun x hx => ?_⟩
  obtain ⟨i, hi, rfl⟩ := List.mem_map.mp hx
  have hi' := List.mem_range.mp hi
  have h5 : (b * (i : Int)).natAbs ≤ 100 * 120 := by
    rw [Int.natAbs_mul]
    exact Nat.mul_le_mul hb (by omega)
  show (a + b * (i : Int)).natAbs ≤ 10 ^ 6
  omega
theorem line_data (a b : Int) (n : Nat) : (List.range n).map (fun (i : Nat) => PyData.int (a + b * (i : Int))) = (lineL a b n).map PyData.int := by
  unfold lineL
  rw [List.map_map]
  rfl
theorem none_rep (h : Nat) : (List.replicate h [PyData.none]).flatten = List.replicate h PyData.none := flat_rep h _
section
variable {a b : Int} {n y : Nat} (hy : 2 ≤ y) (hn : 2 * y ≤ n)
include hy hn
theorem seas_lineD : PyData.list ((List.range y).map fun k => dF (seas (lineL a b n).length y (sF (lineL a b n)) k)) = dFs y (fun _ => 0) := by
  rw [lineL_len]
  exact dFs_congr fun k hk => seas_lineL hy hn hk
theorem adj_lineD : PyData.list ((List.range (lineL a b n).length).map fun k => dF (adj (lineL a b n).length y (sF (lineL a b n)) k)) = dFs n (sF (lineL a b n)) := by
  rw [lineL_len]
  exact dFs_congr fun k hk => adj_lineL hy hn hk
theorem mean_lineD : dOs (lineL a b n).length (meanO (lineL a b n) y) = .list (List.replicate (y / 2) PyData.none ++ (List.range (n - 2 * (y / 2))).map (fun j => dF (sF (lineL a b n) (y / 2 + j))) ++ List.replicate (y / 2) PyData.none) := by
  rw [lineL_len]
  unfold dOs
  congr 1
  rw [range_split (f := fun i => dO (meanO (lineL a b n) y i)) (c := PyData.none) (h := y / 2) (by omega) (fun i hi => ?_) (fun i hi hi2 => ?_)]
  · congr 2
    refine List.map_congr_left fun j hj => ?_
    have hj' := List.mem_range.mp hj
    have hv : valid n y (y / 2 + j) = true := valid_iff.mpr ⟨by omega, by omega⟩
    unfold meanO
    rw [lineL_len, if_pos hv, M_lineL hy hn (by omega) (by omega)]
    rfl
  · have hv : ¬ valid n y i = true := fun z => by
      have := (valid_iff.mp z).1
      omega
    unfold meanO
    rw [lineL_len, if_neg hv]
    rfl
  · have hv : ¬ valid n y i = true := fun z => by
      have := (valid_iff.mp z).2
      omega
    unfold meanO
    rw [lineL_len, if_neg hv]
    rfl
theorem flat_left {c : Int} {i : Nat} (h1 : y / 2 ≤ i) (h2 : i + y / 2 < n) : leftO (lineL c 0 n) y i = some 0 := by
  have hv : valid n y i = true := valid_iff.mpr ⟨h1, h2⟩
  unfold leftO
  rw [lineL_len, if_pos hv, adj_lineL hy hn (by omega), M_lineL hy hn h1 h2]
  congr 1
  grind
end
theorem rnd_data {n y : Nat} {sh : List Int} (hy : 2 ≤ y) (y12 : y ≤ 12) (hn : 2 * y ≤ n) (h4 : n ≤ 120) (hp : sh.length = y) (h0 : sh.sum = 0) :
    PyData.list ((List.range y).map fun k => dF (seas (withP (List.replicate n 7) sh y).length y (sF (withP (List.replicate n 7) sh y)) k)) = dFs sh.length (sF sh) := by
  have g : Good (lineL 7 0 n) y := line_good hy y12 hn h4 (by decide) (by decide)
  rw [hp, ← flat_eq]
  refine dFs_congr fun k hk => ?_
  rw [seas_pat' g hp h0 hk, lineL_len, seas_lineL hy hn hk, Rat.zero_add]
theorem rnd_left {n y : Nat} {sh : List Int} (hy : 2 ≤ y) (y12 : y ≤ 12) (hn : 2 * y ≤ n) (h4 : n ≤ 120) (hp : sh.length = y) (h0 : sh.sum = 0) :
    cutD ((List.range (withP (List.replicate n 7) sh y).length).map fun i => dO (leftO (withP (List.replicate n 7) sh y) y i)) (some ((y / 2 : Nat) : Int)) (some ((n - y / 2 : Nat) : Int)) = List.replicate (n - 2 * (y / 2)) (dF 0) := by
  have g : Good (lineL 7 0 n) y := line_good hy y12 hn h4 (by decide) (by decide)
  rw [← flat_eq, withP_len, lineL_len, cut_range _ _ _ _ (by omega) (by omega), ← range_const]
  have e : n - y / 2 - y / 2 = n - 2 * (y / 2) := by omega
  rw [e]
  refine List.map_congr_left fun j hj => ?_
  have hj' := List.mem_range.mp hj
  rw [left_pat g hp h0 (by rw [lineL_len]; omega), flat_left hy hn (by omega) (by omega)]
  rfl
section
variable {P : Program} {w : World} {K : PySem.W.Frag} {mg : Str → Option Value} {base : Heap}
theorem ok48 {f : Addr} {fd : FuncData} (F0 : Fun K "_law_line_right" "_law_line_right" (topS 48) f fd) (m : Mg mg) (dDr : Dn P w K mg base "_law_draw" 1 ["_law_purse_here", "_law_out_of"] spDraw)
    (dPa : Dn P w K mg base "_law_pattern" 2 ["_law_purse_here", "_law_year"] (spP 20 (fun ds => ∃ y : Nat, ds = [.int (y : Int)] ∧ 2 ≤ y ∧ y ≤ 12) cPat))
    (dWP : Dn P w K mg base "with_pattern" 4 ["series", "year", "pattern"] (spD cWP)) (dTr : Dn P w K mg base "trend" 5 ["series", "year"] (spD cMeans)) (dLe : Dn P w K mg base "left_over" 7 ["series", "year"] (spD cLeft))
    (dSe : Dn P w K mg base "seasons" 6 ["series", "year"] (spD cSL)) (dAd : Dn P w K mg base "adjusted" 7 ["series", "year"] (spD cAdjL)) :
    FnOk P w K mg base CX0 8 f fd ["_law_purse_here", "_law_year", "_law_many"] (spP 30 pre48 cTrue) := by
  refine ok_bodyR F0 sc48 (fun ds ⟨l, y, e, _⟩ => by rw [e]; rfl) fun cdv A outer s H0 E ds p c n0 hr hp hn D hD => ?_
  obtain ⟨y, n, rfl, g1, g2, g3, g4⟩ := hp
  have hs : ∀ a ∈ [p, c], a ∈ [p, c] := fun a h => h
  refine sd_id 3 sc48.nd rfl (.inr rfl) (id_sub hs (id_draw (i := 0) (B := 2000) hs dDr (hr.mono (by decide)) (by rfl) rfl (.inl rfl) rfl ((id_int (i := 2000) pd_int).weak fun d ⟨r, e1, e2⟩ => ⟨r, e1, by omega, by omega⟩) (by decide) (by omega)) (id_int (i := 1000) pd_int)) fun d hd => ?_
  obtain ⟨_, rfl, i1, _, ⟨z1, z2⟩, rfl, rfl⟩ := hd
  obtain ⟨a, ha⟩ : ∃ a : Int, a = i1 - 1000 := ⟨_, rfl⟩
  rw [← ha]
  have ha2 : a.natAbs ≤ 1000 := by omega
  refine sd_id 4 sc48.nd rfl (.inr rfl) (id_sub hs (id_draw (i := 0) (B := 200) hs dDr (hr.mono (by decide)) (by rfl) rfl (.inl rfl) rfl ((id_int (i := 200) pd_int).weak fun d ⟨r, e1, e2⟩ => ⟨r, e1, by omega, by omega⟩) (by decide) (by omega)) (id_int (i := 100) pd_int)) fun d hd => ?_
  obtain ⟨_, rfl, i2, _, ⟨z3, z4⟩, rfl, rfl⟩ := hd
  obtain ⟨b, hb⟩ : ∃ b : Int, b = i2 - 100 := ⟨_, rfl⟩
  rw [← hb]
  have hb2 : b.natAbs ≤ 100 := by omega
  have G := line_good (a := a) (b := b) g1 g2 g3 g4 ha2 hb2
  refine sd_setLc 5 ro_q rfl sc48.nd rfl rfl (sw_true rfl rfl rfl (by decide +kernel)) (lc_one (j := 10) (n := n) (yd := fun (i : Nat) => .int (a + b * (i : Int))) (blkOk_by (N := N48) (sc := defScope (topS 48)) (by decide +kernel))
    ((iv_range1 (by rfl) m.range (pd_var (i := 2) rfl (.inl rfl) rfl) (by omega)).congr (Int.toNat_natCast n) fun _ _ => rfl) (by omega) (fun _ _ _ _ _ => pg_name sc48.nd rfl (.inl rfl)) fun i hi Dl s' H' C cl fp => ?_) ?_
  · exact pd_add (pd_var (i := 3) rfl (.inr (.inl rfl)) rfl) (pd_mul (pd_var (i := 4) rfl (.inr (.inl rfl)) rfl) (pd_var (i := 10) rfl (.inl rfl) rfl) (small_mul (by omega) (by omega)))
  rw [line_data]
  refine sd_skip ro_q ((tw_or (x := false) (y := false) (td_ne_same hr.units ((pd_call dSe (hr.mono (by decide)) (by rfl) (ad_cons (pd_var (i := 5) rfl (.inl rfl) rfl) (ad_cons (pd_var (i := 1) rfl (.inl rfl) rfl) ad_nil)) ⟨_, y, rfl, G, rfl⟩).to (seas_lineD g1 g3))
      ((pd_rep (pd_lst (ad_cons ((pd_tup (ad_cons pd_int (ad_cons pd_int ad_nil))).to (d1 := dF 0) rfl) ad_nil)) (pd_var (i := 1) rfl (.inl rfl) rfl) (by omega) (by omega) (Nat.le_of_ble_eq_true rfl)).to (by rw [Int.toNat_natCast, dFs_rep])) (shp_fs _ _)) fun _ =>
    tw_or1 (td_ne_same hr.units ((pd_call dAd (hr.mono (by decide)) (by rfl) (ad_cons (pd_var (i := 5) rfl (.inl rfl) rfl) (ad_cons (pd_var (i := 1) rfl (.inl rfl) rfl) ad_nil)) ⟨_, y, rfl, G, rfl⟩).to (adj_lineD g1 g3))
      (pd_lc rfl sc48.nd (lc_one (j := 11) (n := n) (yd := fun i => dF (sF (lineL a b n) i)) (blkOk_by (N := N48) (sc := defScope (topS 48)) (by decide +kernel))
        ((iv_list (pd_var (i := 5) rfl (.inl rfl) rfl)).congr (xd' := fun i => .int ((lineL a b n).getD i 0)) (by rw [List.length_map, lineL_len]) fun i hi => ints_getD (by rw [List.length_map] at hi; exact hi)) (by omega) (fun _ _ _ _ _ => pg_name sc48.nd rfl (.inl rfl)) fun i hi Dl s' H' C cl fp =>
          pd_tup (ad_cons (pd_var (i := 11) rfl (.inl rfl) rfl) (ad_cons pd_int ad_nil)))) (shp_fs _ _))).td) ?_
  have ehalf : (y : Int) / 2 = ((y / 2 : Nat) : Int) := by omega
  refine sd_set 6 ro_q sc48.nd rfl (.inl rfl) (d := .int ((y / 2 : Nat) : Int)) ((pd_fdiv (j := 2) (pd_var (i := 1) rfl (.inl rfl) rfl) pd_int ⟨by decide, by decide +kernel⟩).to (congrArg PyData.int ehalf)) ?_
  have hcut : cutD ((lineL a b n).map PyData.int) (some ((y / 2 : Nat) : Int)) (some ((n - y / 2 : Nat) : Int)) = (List.range (n - 2 * (y / 2))).map fun j => PyData.int ((lineL a b n).getD (y / 2 + j) 0) := by
    rw [← line_data, cut_range _ _ _ _ (by omega) (by omega), show n - y / 2 - y / 2 = n - 2 * (y / 2) by omega]
    refine List.map_congr_left fun j hj => ?_
    have hj' := List.mem_range.mp hj
    rw [line_getD (by omega)]
  have esub : (n : Int) - ((y / 2 : Nat) : Int) = ((n - y / 2 : Nat) : Int) := by omega
  refine sd_setLc 7 ro_q rfl sc48.nd rfl rfl (sw_true rfl rfl rfl (by decide +kernel)) (lc_one (j := 11) (n := n - 2 * (y / 2)) (yd := fun j => dF (sF (lineL a b n) (y / 2 + j))) (blkOk_by (N := N48) (sc := defScope (topS 48)) (by decide +kernel))
    ((iv_list ((pd_slice (pd_var (i := 5) rfl (.inl rfl) rfl) (od_some (pd_var (i := 6) rfl (.inl rfl) rfl)) (od_some ((pd_sub (pd_var (i := 2) rfl (.inl rfl) rfl) (pd_var (i := 6) rfl (.inl rfl) rfl)).to (congrArg PyData.int esub)))).to (congrArg PyData.list hcut))).congr (xd' := fun j => .int ((lineL a b n).getD (y / 2 + j) 0)) (by rw [List.length_map, List.length_range]) fun i hi => by
      rw [List.length_map, List.length_range] at hi
      exact range_getD hi) (by omega) (fun _ _ _ _ _ => pg_name sc48.nd rfl (.inl rfl)) fun i hi Dl s' H' C cl fp => ?_) ?_
  · exact pd_tup (ad_cons (pd_var (i := 11) rfl (.inl rfl) rfl) (ad_cons pd_int ad_nil))
  refine sd_skip ro_q (td_ne_same hr.units ((pd_call dTr (hr.mono (by decide)) (by rfl) (ad_cons (pd_var (i := 5) rfl (.inl rfl) rfl) (ad_cons (pd_var (i := 1) rfl (.inl rfl) rfl) ad_nil)) ⟨_, y, rfl, G, rfl⟩))
    ((pd_cat (pd_cat ((pd_rep (pd_lst (ad_cons pd_none ad_nil)) (pd_var (i := 6) rfl (.inl rfl) rfl) (by omega) (by omega) (Nat.le_of_ble_eq_true rfl)).to (d1 := .list (List.replicate (y / 2) .none)) (by rw [Int.toNat_natCast, none_rep])) (pd_var (i := 7) rfl (.inl rfl) rfl) (by rw [List.length_replicate, List.length_map, List.length_range]; omega))
      ((pd_rep (pd_lst (ad_cons pd_none ad_nil)) (pd_var (i := 6) rfl (.inl rfl) rfl) (by omega) (by omega) (Nat.le_of_ble_eq_true rfl)).to (d1 := .list (List.replicate (y / 2) .none)) (by rw [Int.toNat_natCast, none_rep])) (by rw [List.length_append, List.length_replicate, List.length_map, List.length_range]; omega)).to (mean_lineD g1 g3).symm) (shp_os _ _)) ?_
  -- a pattern upon the flat series
  refine sd_id 8 sc48.nd rfl (.inl rfl) (id_call dPa (hr.mono (by decide)) (by rfl) (i := 0) rfl (.inl rfl) rfl (ad_cons (pd_var (i := 1) rfl (.inl rfl) rfl) ad_nil) ⟨y, rfl, g1, g2⟩ (by omega)) fun d hd => ?_
  obtain ⟨y', sh, e, hp, h0, hbd, rfl⟩ := hd
  obtain rfl : y = y' := by
    injection e with e _
    injection e with e
    exact Int.ofNat.inj e
  have hb7 := rep_small (n := n) (c := 7) (b := 7) (by decide)
  have g7 : Good (List.replicate n 7) y := by
    rw [← flat_eq]
    exact line_good g1 g2 g3 g4 (by decide) (by decide)
  have hwb := with_bound (y := y) hb7 hbd (by decide)
  have G7 := g7.with (p := sh) fun i _ => hwb i
  refine sd_set 9 ro_q sc48.nd rfl (.inl rfl) (pd_call dWP (hr.mono (by decide)) (by rfl) (ad_cons ((pd_rep (pd_lst (ad_cons pd_int ad_nil)) (pd_var (i := 2) rfl (.inl rfl) rfl) (by omega) (by omega) (Nat.le_of_ble_eq_true rfl)).to (show _ = dS (List.replicate n 7) by rw [dS_rep, Int.toNat_natCast])) (ad_cons (pd_var (i := 1) rfl (.inl rfl) rfl) (ad_cons (pd_var (i := 8) rfl (.inl rfl) rfl) ad_nil)))
    ⟨_, sh, y, rfl, g7, hp, fun i _ => hwb i, rfl⟩) ?_
  refine sd_skip ro_q (td_ne_same hr.units ((pd_call dSe (hr.mono (by decide)) (by rfl) (ad_cons (pd_var (i := 9) rfl (.inl rfl) rfl) (ad_cons (pd_var (i := 1) rfl (.inl rfl) rfl) ad_nil)) ⟨_, y, rfl, G7, rfl⟩).to (rnd_data g1 g2 g3 g4 hp h0))
    (pd_lc rfl sc48.nd (lc_one (j := 11) (n := sh.length) (yd := fun i => dF (sF sh i)) (blkOk_by (N := N48) (sc := defScope (topS 48)) (by decide +kernel))
      ((iv_list (pd_var (i := 8) rfl (.inl rfl) rfl)).congr (xd' := fun i => .int (sh.getD i 0)) (by rw [List.length_map]) fun i hi => ints_getD (by rw [List.length_map] at hi; exact hi)) (by omega) (fun _ _ _ _ _ => pg_name sc48.nd rfl (.inl rfl)) fun i hi Dl s' H' C cl fp =>
        pd_tup (ad_cons (pd_var (i := 11) rfl (.inl rfl) rfl) (ad_cons pd_int ad_nil)))) (shp_fs _ _)) ?_
  have esub2 : (n : Int) - 2 * ((y / 2 : Nat) : Int) = ((n - 2 * (y / 2) : Nat) : Int) := by omega
  refine sd_ret ro_q (pd_eq_same hr.units ((pd_slice (pd_call dLe (hr.mono (by decide)) (by rfl) (ad_cons (pd_var (i := 9) rfl (.inl rfl) rfl) (ad_cons (pd_var (i := 1) rfl (.inl rfl) rfl) ad_nil)) ⟨_, y, rfl, G7, rfl⟩) (od_some (pd_var (i := 6) rfl (.inl rfl) rfl)) (od_some ((pd_sub (pd_var (i := 2) rfl (.inl rfl) rfl) (pd_var (i := 6) rfl (.inl rfl) rfl)).to (congrArg PyData.int esub)))).to
      (d1 := dFs (n - 2 * (y / 2)) (fun _ => 0)) ((congrArg PyData.list (rnd_left g1 g2 g3 g4 hp h0)).trans (by unfold dFs; rw [range_const])))
    ((pd_rep (pd_lst (ad_cons ((pd_tup (ad_cons pd_int (ad_cons pd_int ad_nil))).to (d1 := dF 0) rfl) ad_nil)) ((pd_sub (pd_var (i := 2) rfl (.inl rfl) rfl) (pd_mul (i := 2) pd_int (pd_var (i := 6) rfl (.inl rfl) rfl) (small_mul (by decide) (by omega)))).to (congrArg PyData.int esub2)) (by omega) (by omega) (Nat.le_of_ble_eq_true rfl)).to (by rw [Int.toNat_natCast, dFs_rep])) (shp_fs _ _)) fun v H r hv => hD v _ H rfl ⟨r.1.le (by omega), r.2⟩ hv
end
end Cv

namespace Cv
open PySem PySem.Spec PyProof.Rows L2
open Evl (Ex)
/-! ### tests that draw -/
def TI2 (X : Cx) (p c : Addr) (n n' : Nat) (Γ : List Sl) (e : Expr) (b : Bool) : Prop :=
  ∀ (σ : L2.St) (H : Hp), EnvOk (era [p, c] H) σ Γ → PInv p c n H → ∀ Q : Bool → Hp → Prop, (∀ H2, Ex (era [p, c] H) (era [p, c] H2) → PInv p c n' H2 → Q b H2) → WT X e σ H Q
def TWI (X : Cx) (p c : Addr) (n n' : Nat) (Γ : List Sl) (e : Expr) (b : Bool) : Prop :=
  ∀ (σ : L2.St) (H : Hp), EnvOk (era [p, c] H) σ Γ → PInv p c n H → ∀ Q : Bool → Hp → Prop, (∀ H2, Ex (era [p, c] H) (era [p, c] H2) → PInv p c n' H2 → Q b H2) → WW X e σ H Q
section
variable {X : Cx} {p c : Addr} {n n' n1 : Nat} {Γ : List Sl} {e a b : Expr} {pos : Pos} {x y : Bool} {H0 : Hp} {D : Ends} {rest body : List Stmt} {C : PyData → Prop}
theorem ti_td (h : TD X [p, c] Γ e x) : TI2 X p c n n Γ e x := fun σ H E I Q q => h σ H E I.al Q fun H2 e2 => q H2 (era_ex e2) (I.up e2)
theorem ti_val (h : ID X p c n n' [p, c] Γ e (fun d => d = .bool x)) (he : ∀ whole, isTrue e X.env whole = (do let v ← whole; standAt e.pos; holding [v] (truthy v)) := by intro _; rfl) : TI2 X p c n n' Γ e x := fun σ H E I Q q => by
  refine wt_of (pt_val pe_w he) ?_
  refine h σ H E I.al I _ fun v d H1 hd h1 e1 I1 => ?_
  subst hd
  exact ⟨x, h1.booli, q H1 e1 I1⟩
theorem ti_not (h : TI2 X p c n n' Γ e x) : TI2 X p c n n' Γ (.UnaryOp .Not e pos) (!x) := fun σ H E I Q q => by
  refine wt_of (pt_not pt_w) ?_
  exact h σ H E I _ fun H1 e1 I1 => q H1 e1 I1
theorem twi_or1 (h : TI2 X p c n n' Γ a x) : TWI X p c n n' Γ (.BoolOp .Or [a] pos) x := fun σ H E I Q q => by
  refine ww_of (pw_or1 pt_w) ?_
  exact h σ H E I _ q
theorem twi_or {es : List Expr} (h : TI2 X p c n n1 Γ a false) (h2 : TWI X p c n1 n' Γ (.BoolOp .Or (b :: es) pos) y) : TWI X p c n n' Γ (.BoolOp .Or (a :: b :: es) pos) y := fun σ H E I Q q => by
  refine ww_of (pw_or pt_w pw_w) ?_
  refine h σ H E I _ fun H1 e1 I1 => ?_
  exact iteF (h2 σ H1 (E.up e1) I1 _ fun H2 e2 I2 => q H2 (e1.trans e2) I2)
theorem TWI.ti (h : TWI X p c n n' Γ e x) : TI2 X p c n n' Γ e x := fun σ H E I Q q => by
  refine wt_of (PW.pt pw_w) ?_
  exact h σ H E I _ q
theorem sd_skipI (h : TI2 X p c n n' Γ e false) (k : SD X [p, c] (RQ p c n' H0) D Γ rest) : SD X [p, c] (RQ p c n H0) D Γ (.If e body [] pos :: rest) := fun σ H E q => by
  refine ws_cons (ps_if pt_w pss_w pss_w) ?_
  refine h σ H E q.1 _ fun H1 e1 I1 => ?_
  exact iteF (sd_next (D' := D) k σ H1 (E.up e1) ⟨I1, q.2.trans e1⟩)
theorem sd_idPair {s t : Str} {ps pt tp : Pos} {kk : Nat} (i j : Nat) (hg : PG X (.Tuple [.Name s ps, .Name t pt] kk tp) (gTup X.K 2 (gCons (gName i) (gCons (gName j) gNil)))) (he : ID X p c n n' [p, c] Γ e C)
    (k : ∀ d, C d → ∃ d1 d2, d = .tuple [d1, d2] ∧ SD X [p, c] (RQ p c n' H0) D ((Γ.set i (.dat d1)).set j (.dat d2)) rest)
    (hs : swapsWithSole [.Tuple [.Name s ps, .Name t pt] kk tp] e pos.line X.env = pure false := by rfl) (hw : swappedStores [.Tuple [.Name s ps, .Name t pt] kk tp] e X.env = pure none := by rfl)
    (h1 : (assignEach [.Tuple [.Name s ps, .Name t pt] kk tp] X.env).map (·.2) = [assign (.Tuple [.Name s ps, .Name t pt] kk tp) X.env] := by rfl) :
    SD X [p, c] (RQ p c n H0) D Γ (.Assign [.Tuple [.Name s ps, .Name t pt] kk tp] e pos :: rest) := fun σ H E q => by
  refine ws_cons (ps_asg pe_w hg hs hw h1) ?_
  refine he σ H E q.1.al q.1 _ fun v d H1 cd hv e1 I1 => ?_
  obtain ⟨d1, d2, rfl, hk⟩ := k d cd
  obtain ⟨l, xs, rfl, f1, r1⟩ := hv.tupi
  obtain ⟨u, w, rfl, g1, g2⟩ := r1.two
  refine ⟨l, [u, w], rfl, SqT.of (era_some f1).2, rfl, u, [w], rfl, w, [], rfl, rfl, ?_⟩
  exact hk _ H1 (((E.up e1).setD g1).setD g2) ⟨I1, q.2.trans e1⟩
end
def spLaw (K : PySem.W.Frag) : Sp := fun vs H Q _ => ∃ (a : Addr) (ns : List Int), vs = [.ref a] ∧ SqL K H a (ns.map V.int) ∧ ∀ H2, Q (.bl true) H2
abbrev N49 : List Str := ["_law_script", "_law_purse_here", "_law_turn", "_law_series", "_law_year", "_law_kept"]
theorem sc49 : FnScope N49 ["_law_script"] (defScope (topS 49)) := ⟨rfl, rfl, rfl, by decide +kernel, rfl, by decide +kernel, by decide +kernel⟩
section
variable {P : Program} {w : World} {K : PySem.W.Frag} {mg : Str → Option Value} {base : Heap}
theorem ok49 {f : Addr} {fd : FuncData} (F0 : Fun K "law" "law" (topS 49) f fd) (m : Mg mg) (dPu : Dn P w K mg base "_law_purse" 1 ["_law_script"] (spPurse K)) (dSm : Dn P w K mg base "_law_small" 2 ["_law_purse_here"] (spP 200 (fun ds => ds = []) cSmall))
    (dSr : Dn P w K mg base "_law_sums_right" 8 ["_law_series", "_law_year"] (spD cYes)) (dPr : Dn P w K mg base "_law_pattern_right" 8 ["_law_purse_here", "_law_series", "_law_year"] (spP 30 pre46 cTrue))
    (dAr : Dn P w K mg base "_law_about_right" 7 ["_law_series", "_law_year"] (spD cYes)) (dLr : Dn P w K mg base "_law_line_right" 8 ["_law_purse_here", "_law_year", "_law_many"] (spP 30 pre48 cTrue)) : FnOk P w K mg base CX0 9 f fd ["_law_script"] (spLaw K) := by
  refine ok_bodyP F0 sc49 (fun vs H Q E ⟨a, ns, e, _⟩ => by rw [e]; rfl) fun cdv A outer s H E vs Q hr h => ?_
  obtain ⟨a, ns, rfl, hq, q⟩ := h
  have E0 : EnvOk (era [] H) (L2.start N49 [.ref a]) [.val (.ref a), .non, .non, .non, .non, .non] := envOk_startP .nil
  obtain ⟨fp, fdp, Fp, mp, kp, bp⟩ := dPu.ex
  refine ws_cons (ps_set (i := 1) sc49.nd rfl (.inl rfl) (pe_call Fp (hr.mono (by decide)) (by rfl) mp kp bp .nil pass0 (pa_cons (pe_var (i := 0) rfl (.inl rfl)) pa_nil))) ?_
  refine ⟨.ref a, E0.val rfl, a, ns, rfl, hq, fun p c H2 e2 I => ?_⟩
  have E1 : EnvOk (era [p, c] H2) ((L2.start N49 [.ref a]).set 1 (some (.ref p))) [.val (.ref a), .val (.ref p), .non, .non, .non, .non] := (E0.setV (i := 1) (v := .ref p)).ints (by
    intro i s hi
    match i, hi with
    | 0, h => cases h; exact .inr (.inl ⟨_, rfl⟩)
    | 1, h => cases h; exact .inr (.inl ⟨_, rfl⟩)
    | 2, h => cases h; exact .inl rfl
    | 3, h => cases h; exact .inl rfl
    | 4, h => cases h; exact .inl rfl
    | 5, h => cases h; exact .inl rfl)
  have RM : ∀ k, RO [p, c] (fun H => PInv p c k H) := fun k => ⟨fun H H' q e => q.up e, fun H q => q.al⟩
  have hs : ∀ a ∈ [p, c], a ∈ [p, c] := fun a h => h
  refine (?_ : SD _ [p, c] (fun H => PInv p c 0 H) _ [.val (.ref a), .val (.ref p), .non, .non, .non, .non] _) _ H2 E1 I
  refine sd_for (n := 4) (xd := fun i => .int (i : Nat)) (fun _ => [.val (.ref a), .val (.ref p), .non, .non, .non, .non]) _ (fun i H => PInv p c (260 * i) H) PassesOwn.never rfl (RM 0) (fun i => RM _)
    ((iv_range1 (j := 4) (by rfl) m.range pd_int (by omega)).congr rfl fun _ _ => rfl) (gfr_name 2 sc49.nd rfl (.inl rfl)) (less_refl _) (fun _ h => h) (fun i hi Hb => ?_) ?_
  · refine SD.weak (R' := RQ p c (260 * i) Hb) (Γ' := [.val (.ref a), .val (.ref p), .dat (.int (i : Nat)), .non, .non, .non]) ?_ (less_refl _) fun H q => ⟨q.2, q.1⟩
    refine sd_idPair 3 4 (pg_tup rfl (pgs_cons (pg_name (i := 3) sc49.nd rfl (.inl rfl)) (pgs_cons (pg_name (i := 4) sc49.nd rfl (.inl rfl)) pgs_nil))) (id_call dSm (hr.mono (by decide)) (by rfl) (i := 1) rfl (.inl rfl) rfl ad_nil rfl (by omega)) fun d hd => ?_
    obtain ⟨l, y, g, l5, rfl⟩ := hd
    refine ⟨_, _, rfl, ?_⟩
    have g1 := g.y2
    have g2 := g.y12
    have g3 := g.two
    have g4 := g.most
    refine sd_set 5 ro_q sc49.nd rfl (.inl rfl) (pd_list (by rfl) m.list (pd_var (i := 3) rfl (.inl rfl) rfl)) ?_
    refine sd_skipI (n' := 260 * i + 200 + 30) (twi_or (ti_not (x := true) (ti_td (td_val (pd_call dSr (hr.mono (by decide)) (by rfl) (ad_cons (pd_var (i := 3) rfl (.inl rfl) rfl) (ad_cons (pd_var (i := 4) rfl (.inl rfl) rfl) ad_nil)) ⟨l, y, rfl, g, rfl⟩))))
      (twi_or1 (ti_not (x := true) (ti_val (ID.weak (C := cTrue [dS l, .int (y : Int)]) (id_call dPr (hr.mono (by decide)) (by rfl) (i := 1) rfl (.inl rfl) rfl (ad_cons (pd_var (i := 3) rfl (.inl rfl) rfl) (ad_cons (pd_var (i := 4) rfl (.inl rfl) rfl) ad_nil)) ⟨l, y, rfl, g, l5⟩ (by omega)) fun d h => h))))).ti ?_
    refine sd_skipI (n' := 260 * i + 200 + 30 + 30) (twi_or (ti_not (x := true) (ti_td (td_val (pd_call dAr (hr.mono (by decide)) (by rfl) (ad_cons (pd_var (i := 3) rfl (.inl rfl) rfl) (ad_cons (pd_var (i := 4) rfl (.inl rfl) rfl) ad_nil)) ⟨l, y, rfl, g, rfl⟩))))
      (twi_or (ti_not (x := true) (ti_val (ID.weak (C := cTrue [.int (y : Int), .int (((l.map PyData.int).length : Nat) : Int)]) (id_call dLr (hr.mono (by decide)) (by rfl) (i := 1) rfl (.inl rfl) rfl (ad_cons (pd_var (i := 4) rfl (.inl rfl) rfl) (ad_cons (pd_len (by rfl) m.len (pd_var (i := 3) rfl (.inl rfl) rfl)) ad_nil)) ⟨y, l.length, by rw [List.length_map], g1, g2, g3, g4⟩ (by omega)) fun d h => h)))
      (twi_or1 (ti_td (td_ne_same hr.units (pd_var (i := 3) rfl (.inl rfl) rfl) (pd_var (i := 5) rfl (.inl rfl) rfl) (shp_Is _)))))).ti ?_
    exact sd_nil fun σ H E' q => ⟨E'.less (less_by rfl fun i hi => by
        match i, hi with
        | 0, _ => exact .inr rfl
        | 1, _ => exact .inr rfl
        | 2, _ => exact .inl rfl
        | 3, _ => exact .inl rfl
        | 4, _ => exact .inl rfl
        | 5, _ => exact .inl rfl), q.2, q.1.le (by omega)⟩
  · exact sd_ret (RM _) pd_bool fun v H _ hv => by
      rw [hv.booli]
      exact q H
end
end Cv

namespace Cv
open PySem PySem.Spec PyProof.Rows L2
open Evl (Ex)
/-- what the end needs of the text -/
structure Tx (K : PySem.W.Frag) (mg : Str → Option Value) : Prop where
  d7 : Df K mg "shared" 7 ["one", "other"]
  d8 : Df K mg "is_whole" 8 ["thing"]
  d9 : Df K mg "is_fraction" 9 ["thing"]
  d10 : Df K mg "lowest" 10 ["top", "bottom"]
  d11 : Df K mg "plus" 11 ["one", "other"]
  d12 : Df K mg "minus" 12 ["one", "other"]
  d13 : Df K mg "times" 13 ["one", "other"]
  d14 : Df K mg "sum_of" 14 ["fractions"]
  d21 : Df K mg "is_series" 21 ["thing"]
  d22 : Df K mg "must_be_series" 22 ["series", "year"]
  d23 : Df K mg "mean_round" 23 ["series", "year", "i"]
  d24 : Df K mg "means" 24 ["series", "year"]
  d25 : Df K mg "season_list" 25 ["series", "year"]
  d26 : Df K mg "trend" 26 ["series", "year"]
  d27 : Df K mg "seasons" 27 ["series", "year"]
  d28 : Df K mg "adjusted_list" 28 ["series", "year"]
  d29 : Df K mg "adjusted" 29 ["series", "year"]
  d30 : Df K mg "left_over" 30 ["series", "year"]
  d31 : Df K mg "seasons_judged" 31 ["series", "year", "thing"]
  d32 : Df K mg "year_sums" 32 ["series", "year"]
  d33 : Df K mg "with_pattern" 33 ["series", "year", "pattern"]
  d35 : Df K mg "_law_purse" 35 ["_law_script"]
  d36 : Df K mg "_law_draw" 36 ["_law_purse_here", "_law_out_of"]
  d38 : Df K mg "_law_shared" 38 ["_law_one", "_law_other"]
  d39 : Df K mg "_law_lowest" 39 ["_law_top", "_law_bottom"]
  d40 : Df K mg "_law_sum" 40 ["_law_some"]
  d41 : Df K mg "_law_small" 41 ["_law_purse_here"]
  d42 : Df K mg "_law_pattern" 42 ["_law_purse_here", "_law_year"]
  d43 : Df K mg "_law_plus_all" 43 ["_law_some", "_law_more"]
  d44 : Df K mg "_law_times_all" 44 ["_law_some", "_law_num"]
  d45 : Df K mg "_law_sums_right" 45 ["_law_series", "_law_year"]
  d46 : Df K mg "_law_pattern_right" 46 ["_law_purse_here", "_law_series", "_law_year"]
  d47 : Df K mg "_law_about_right" 47 ["_law_series", "_law_year"]
  d48 : Df K mg "_law_line_right" 48 ["_law_purse_here", "_law_year", "_law_many"]
def BindOk (i : Nat) (x : Str) (ps : List Str) : Prop := ∀ (kV doc pm : Value) (an : Option Addr) (cdv ct : Value) (us : List Value), us.length = ps.length → bindArgs (PySem.W.fnOf x x (defArgs (topS i)) (defBody (topS i)) (defScope (topS i)) .none kV doc pm an cdv ct) ⟨us, []⟩ = pure (ps.zip us)
theorem df_mk {K : PySem.W.Frag} {h : Heap} {mg : Str → Option Value} {x : Str} {i : Nat} {ps : List Str} {f : Addr} (X : K.In h) (G : h.Ns mainGlobals mg) {od an : Option Addr} {osl : Array (Option Value)} {oc kV doc pm cdv ct : Value}
    (a : PySem.W.nsIn K mainGlobals x = some (some (.ref f))) (l : K.lookup f = some ⟨oc, od, .func (PySem.W.fnOf x x (defArgs (topS i)) (defBody (topS i)) (defScope (topS i)) .none kV doc pm an cdv ct), osl⟩) (c : PySem.W.codeIn K cdv x = true) (k : PySem.W.keepIn K (.ref f) = true)
    (b : BindOk i x ps) : Df K mg x i ps :=
  have F := fun_mk (st := topS i) l c k
  ⟨⟨f, _, F, PySem.W.mg_of X G a, F.binds b⟩⟩
theorem bd7 : BindOk 7 "shared" ["one", "other"] := fun _ _ _ _ _ _ us hl => match us, hl with | [_, _], _ => rfl
theorem bd8 : BindOk 8 "is_whole" ["thing"] := fun _ _ _ _ _ _ us hl => match us, hl with | [_], _ => rfl
theorem bd9 : BindOk 9 "is_fraction" ["thing"] := fun _ _ _ _ _ _ us hl => match us, hl with | [_], _ => rfl
theorem bd10 : BindOk 10 "lowest" ["top", "bottom"] := fun _ _ _ _ _ _ us hl => match us, hl with | [_, _], _ => rfl
theorem bd11 : BindOk 11 "plus" ["one", "other"] := fun _ _ _ _ _ _ us hl => match us, hl with | [_, _], _ => rfl
theorem bd12 : BindOk 12 "minus" ["one", "other"] := fun _ _ _ _ _ _ us hl => match us, hl with | [_, _], _ => rfl
theorem bd13 : BindOk 13 "times" ["one", "other"] := fun _ _ _ _ _ _ us hl => match us, hl with | [_, _], _ => rfl
theorem bd14 : BindOk 14 "sum_of" ["fractions"] := fun _ _ _ _ _ _ us hl => match us, hl with | [_], _ => rfl
theorem bd21 : BindOk 21 "is_series" ["thing"] := fun _ _ _ _ _ _ us hl => match us, hl with | [_], _ => rfl
theorem bd22 : BindOk 22 "must_be_series" ["series", "year"] := fun _ _ _ _ _ _ us hl => match us, hl with | [_, _], _ => rfl
theorem bd23 : BindOk 23 "mean_round" ["series", "year", "i"] := fun _ _ _ _ _ _ us hl => match us, hl with | [_, _, _], _ => rfl
theorem bd24 : BindOk 24 "means" ["series", "year"] := fun _ _ _ _ _ _ us hl => match us, hl with | [_, _], _ => rfl
theorem bd25 : BindOk 25 "season_list" ["series", "year"] := fun _ _ _ _ _ _ us hl => match us, hl with | [_, _], _ => rfl
theorem bd26 : BindOk 26 "trend" ["series", "year"] := fun _ _ _ _ _ _ us hl => match us, hl with | [_, _], _ => rfl
theorem bd27 : BindOk 27 "seasons" ["series", "year"] := fun _ _ _ _ _ _ us hl => match us, hl with | [_, _], _ => rfl
theorem bd28 : BindOk 28 "adjusted_list" ["series", "year"] := fun _ _ _ _ _ _ us hl => match us, hl with | [_, _], _ => rfl
theorem bd29 : BindOk 29 "adjusted" ["series", "year"] := fun _ _ _ _ _ _ us hl => match us, hl with | [_, _], _ => rfl
theorem bd30 : BindOk 30 "left_over" ["series", "year"] := fun _ _ _ _ _ _ us hl => match us, hl with | [_, _], _ => rfl
theorem bd31 : BindOk 31 "seasons_judged" ["series", "year", "thing"] := fun _ _ _ _ _ _ us hl => match us, hl with | [_, _, _], _ => rfl
theorem bd32 : BindOk 32 "year_sums" ["series", "year"] := fun _ _ _ _ _ _ us hl => match us, hl with | [_, _], _ => rfl
theorem bd33 : BindOk 33 "with_pattern" ["series", "year", "pattern"] := fun _ _ _ _ _ _ us hl => match us, hl with | [_, _, _], _ => rfl
theorem bd35 : BindOk 35 "_law_purse" ["_law_script"] := fun _ _ _ _ _ _ us hl => match us, hl with | [_], _ => rfl
theorem bd36 : BindOk 36 "_law_draw" ["_law_purse_here", "_law_out_of"] := fun _ _ _ _ _ _ us hl => match us, hl with | [_, _], _ => rfl
theorem bd38 : BindOk 38 "_law_shared" ["_law_one", "_law_other"] := fun _ _ _ _ _ _ us hl => match us, hl with | [_, _], _ => rfl
theorem bd39 : BindOk 39 "_law_lowest" ["_law_top", "_law_bottom"] := fun _ _ _ _ _ _ us hl => match us, hl with | [_, _], _ => rfl
theorem bd40 : BindOk 40 "_law_sum" ["_law_some"] := fun _ _ _ _ _ _ us hl => match us, hl with | [_], _ => rfl
theorem bd41 : BindOk 41 "_law_small" ["_law_purse_here"] := fun _ _ _ _ _ _ us hl => match us, hl with | [_], _ => rfl
theorem bd42 : BindOk 42 "_law_pattern" ["_law_purse_here", "_law_year"] := fun _ _ _ _ _ _ us hl => match us, hl with | [_, _], _ => rfl
theorem bd43 : BindOk 43 "_law_plus_all" ["_law_some", "_law_more"] := fun _ _ _ _ _ _ us hl => match us, hl with | [_, _], _ => rfl
theorem bd44 : BindOk 44 "_law_times_all" ["_law_some", "_law_num"] := fun _ _ _ _ _ _ us hl => match us, hl with | [_, _], _ => rfl
theorem bd45 : BindOk 45 "_law_sums_right" ["_law_series", "_law_year"] := fun _ _ _ _ _ _ us hl => match us, hl with | [_, _], _ => rfl
theorem bd46 : BindOk 46 "_law_pattern_right" ["_law_purse_here", "_law_series", "_law_year"] := fun _ _ _ _ _ _ us hl => match us, hl with | [_, _, _], _ => rfl
theorem bd47 : BindOk 47 "_law_about_right" ["_law_series", "_law_year"] := fun _ _ _ _ _ _ us hl => match us, hl with | [_, _], _ => rfl
theorem bd48 : BindOk 48 "_law_line_right" ["_law_purse_here", "_law_year", "_law_many"] := fun _ _ _ _ _ _ us hl => match us, hl with | [_, _, _], _ => rfl
section
variable {P : Program} {w : World} {K : PySem.W.Frag} {mg : Str → Option Value} {base : Heap}
/-- every def, from below -/
theorem ok_all {f : Addr} {fd : FuncData} (m : Mg mg) (t : Tx K mg) (F0 : Fun K "law" "law" (topS 49) f fd) : FnOk P w K mg base CX0 9 f fd ["_law_script"] (spLaw K) := by
  have e7 := dn_of (P := P) (w := w) (base := base) (k := 1) t.d7 (fun f fd F => ok7 F m.abs)
  have e8 := dn_of (P := P) (w := w) (base := base) (k := 1) t.d8 (fun f fd F => ok8 F m)
  have e10 := dn_of (P := P) (w := w) (base := base) (k := 2) t.d10 (fun f fd F => ok10 F e7)
  have e9 := dn_of (P := P) (w := w) (base := base) (k := 2) t.d9 (fun f fd F => ok9 F m e8 e7)
  have e11 := dn_of (P := P) (w := w) (base := base) (k := 3) t.d11 (fun f fd F => ok11 F e10)
  have e12 := dn_of (P := P) (w := w) (base := base) (k := 3) t.d12 (fun f fd F => ok12 F e10)
  have e13 := dn_of (P := P) (w := w) (base := base) (k := 3) t.d13 (fun f fd F => ok13 F e10)
  have e14 := dn_of (P := P) (w := w) (base := base) (k := 4) t.d14 (fun f fd F => ok14 F e11)
  have e21 := dn_of (P := P) (w := w) (base := base) (k := 2) t.d21 (fun f fd F => ok21 F m e8)
  have e22 := dn_of (P := P) (w := w) (base := base) (k := 3) t.d22 (fun f fd F => ok22 F m e21)
  have e23 := dn_of (P := P) (w := w) (base := base) (k := 3) t.d23 (fun f fd F => ok23 F m e10)
  have e24 := dn_of (P := P) (w := w) (base := base) (k := 4) t.d24 (fun f fd F => ok24 F m e23)
  have e25 := dn_of (P := P) (w := w) (base := base) (k := 5) t.d25 (fun f fd F => ok25 F m e24 e12 e13 e14)
  have e26 := dn_of (P := P) (w := w) (base := base) (k := 5) t.d26 (fun f fd F => ok26 F e22 e24)
  have e27 := dn_of (P := P) (w := w) (base := base) (k := 6) t.d27 (fun f fd F => ok27 F e22 e25)
  have e28 := dn_of (P := P) (w := w) (base := base) (k := 6) t.d28 (fun f fd F => ok28 F m e25 e12)
  have e29 := dn_of (P := P) (w := w) (base := base) (k := 7) t.d29 (fun f fd F => ok29 F e22 e28)
  have e30 := dn_of (P := P) (w := w) (base := base) (k := 7) t.d30 (fun f fd F => ok30 F m e22 e28 e24 e12)
  have e31 := dn_of (P := P) (w := w) (base := base) (k := 6) t.d31 (fun f fd F => ok31 F m e22 e9 e14 e25 e12)
  have e32 := dn_of (P := P) (w := w) (base := base) (k := 4) t.d32 (fun f fd F => ok32 F m e22)
  have e33 := dn_of (P := P) (w := w) (base := base) (k := 4) t.d33 (fun f fd F => ok33 F m e22 e8)
  have e35 := dn_of (P := P) (w := w) (base := base) (k := 1) t.d35 (fun f fd F => ok35 F)
  have e36 := dn_of (P := P) (w := w) (base := base) (k := 1) t.d36 (fun f fd F => ok36 F m)
  have e38 := dn_of (P := P) (w := w) (base := base) (k := 1) t.d38 (fun f fd F => ok38 F m.abs)
  have e39 := dn_of (P := P) (w := w) (base := base) (k := 2) t.d39 (fun f fd F => ok39 F e38)
  have e40 := dn_of (P := P) (w := w) (base := base) (k := 3) t.d40 (fun f fd F => ok40 F e39)
  have e41 := dn_of (P := P) (w := w) (base := base) (k := 2) t.d41 (fun f fd F => ok41 F m e36)
  have e42 := dn_of (P := P) (w := w) (base := base) (k := 2) t.d42 (fun f fd F => ok42 F m e36)
  have e43 := dn_of (P := P) (w := w) (base := base) (k := 4) t.d43 (fun f fd F => ok43 F m e40)
  have e44 := dn_of (P := P) (w := w) (base := base) (k := 3) t.d44 (fun f fd F => ok44 F m e39)
  have e45 := dn_of (P := P) (w := w) (base := base) (k := 8) t.d45 (fun f fd F => ok45 F m e29 e40 e27 e31 e32)
  have e46 := dn_of (P := P) (w := w) (base := base) (k := 8) t.d46 (fun f fd F => ok46 F m e36 e42 e33 e26 e30 e27 e29 e43 e44)
  have e47 := dn_of (P := P) (w := w) (base := base) (k := 7) t.d47 (fun f fd F => ok47 F m e26 e27)
  have e48 := dn_of (P := P) (w := w) (base := base) (k := 8) t.d48 (fun f fd F => ok48 F m e36 e42 e33 e26 e30 e27 e29)
  exact ok49 F0 m e35 e41 e45 e46 e47 e48
end
theorem cs_mk {K : PySem.W.Frag} {h : Heap} {mg : Str → Option Value} {x : Str} {i : Int} {t : Tok} (X : K.In h) (G : h.Ns mainGlobals mg) (a : PySem.W.nsIn K mainGlobals x = some (some (.int i t))) : ∃ t, mg x = some (.int i t) := ⟨t, PySem.W.mg_of X G a⟩
theorem mn_of {p : Program} {mg : Str → Option Value} {h : Heap} (X : PySem.W.XL p [(("MOST_NUMBER" : Str), PySem.W.WData.int 1000000)] mg h) : ∃ t, mg "MOST_NUMBER" = some (.int 1000000 t) := by
  obtain ⟨v, a, b⟩ := X.2.val _ List.mem_cons_self
  obtain ⟨t, rfl, -⟩ := PySem.W.readsW_int_inv b
  exact ⟨t, a⟩
theorem walk_ofX {l : PySem.W.OpenLaw} {n k : Nat} {q : Program} {loose : List Str} {XP : (Str → Option Value) → Heap → Prop} {YP : World → Heap → Prop} {d : DefRec} {K : Params → PySem.W.Frag} {sp : World → Sp} {x : Str}
    (hn : l.most = some n) (hn2 : n ≤ sizeLine) (hdf : d.params.defaults = []) (hr : Room k callerA)
    (hY : ∀ (w : World) (h : Heap), YP w h → (K w.params).In h)
    (F : ∀ (w : World) (mg : Str → Option Value) (fa : Addr) (h : Heap), (K w.params).In h → h.Ns mainGlobals mg → mg d.name = some (.ref fa) → XP mg h →
      ∃ fd : FuncData, (∀ (s : Shared) (u : Value), BindsTo s fd ⟨[u], []⟩ [(x, u)]) ∧
        ∀ base : Heap, (K w.params).In base → base.Ns mainGlobals mg → FnOk l.prog w (K w.params) mg base CX0 k fa fd [x] (sp w))
    (hsp : ∀ (w : World) (H : Hp) (a : Addr) (ns : List Int), ns.length ≤ n → Only H → SqL (K w.params) H a (ns.map V.int) → sp w [.ref a] H (fun v _ => v = .bl true) fun _ _ _ => False) :
    PySem.W.WalkO q loose XP YP l.row.toRowW d [] (fun f vs => PySem.call f vs) := by
  refine Att.attach_call hn hdf fun w s₀ s₁ mg mb fa o pm cd doc a vs ns G Y ho hd hcd hmg hobj hints hlen hg => ?_
  have KX := hY w _ Y
  obtain ⟨fd, hb, hF⟩ := F w mg fa _ KX G.T.g hmg G.X
  exact law_call (CX := CX0) KX G.T.g G.T.b G.T.builtins G.T.nolimit hg hobj hints (Nat.le_trans hlen hn2) hr hF hb (fun H hO hS => hsp w H a ns hlen hO hS) fun H e s' h => h
theorem law_mk {l : PySem.W.OpenLaw} {w : World} {K : PySem.W.Frag} {h : Heap} {mg : Str → Option Value} {fa f2 : Addr} (X : K.In h) (G : h.Ns mainGlobals mg) (hfa : mg "law" = some (.ref fa)) (m : Mg mg) (t : Tx K mg)
    {od2 an2 : Option Addr} {sl2 : Array (Option Value)} {oc2 kV2 dc2 pm2 cd2 ct2 : Value}
    (a2 : PySem.W.nsIn K mainGlobals "law" = some (some (.ref f2))) (l2 : K.lookup f2 = some ⟨oc2, od2, .func (PySem.W.fnOf "law" "law" (defArgs (topS 49)) (defBody (topS 49)) (defScope (topS 49)) .none kV2 dc2 pm2 an2 cd2 ct2), sl2⟩) (c2 : PySem.W.codeIn K cd2 "law" = true) (k2 : PySem.W.keepIn K (.ref f2) = true) :
    ∃ fd : FuncData, (∀ (s : Shared) (v : Value), BindsTo s fd ⟨[v], []⟩ [("_law_script", v)]) ∧ ∀ base : Heap, K.In base → base.Ns mainGlobals mg → FnOk l.prog w K mg base CX0 9 fa fd ["_law_script"] (spLaw K) := by
  have e := hfa.symm.trans (PySem.W.mg_of X G a2)
  cases e
  have F2 := fun_mk (st := topS 49) l2 c2 k2
  exact ⟨PySem.W.fnOf "law" "law" (defArgs (topS 49)) (defBody (topS 49)) (defScope (topS 49)) .none kV2 dc2 pm2 an2 cd2 ct2, fun s v => .of_eq rfl, fun base _ _ => ok_all m t F2⟩
end Cv

open PySem PySem.W PyProof.Rows
set_option maxHeartbeats 0 in
theorem PySem.Challenge.cw_countveil_k62_whole_seasons_and_patterns_holds : PySem.Challenge.rw_countveil_k62_whole_seasons_and_patterns.Holds := by
  w_on; o_law; k_head; (case hw => w_witness2)
  k_fill
  refine Cv.walk_ofX (l := PySem.Challenge.rw_countveil_k62_whole_seasons_and_patterns) (k := 9) (x := "_law_script") (sp := fun w => Cv.spLaw _) rfl (by decide) rfl ⟨rfl, by decide, by decide⟩ (fun w h Y => PySem.W.kIn_of Y) ?F (fun _ _ a ns hl _ hS => ⟨a, ns, rfl, hS, fun _ => rfl⟩)
  case F =>
    intro w mg fa h KX G hmg XP
    have tx : Cv.Tx _ mg := {
      d7 := by (refine' Cv.df_mk KX G ?a ?l ?c ?k Cv.bd7); (case a => k_is); (case l => k_is); (case c => k_is); (case k => k_is)
      d8 := by (refine' Cv.df_mk KX G ?a ?l ?c ?k Cv.bd8); (case a => k_is); (case l => k_is); (case c => k_is); (case k => k_is)
      d9 := by (refine' Cv.df_mk KX G ?a ?l ?c ?k Cv.bd9); (case a => k_is); (case l => k_is); (case c => k_is); (case k => k_is)
      d10 := by (refine' Cv.df_mk KX G ?a ?l ?c ?k Cv.bd10); (case a => k_is); (case l => k_is); (case c => k_is); (case k => k_is)
      d11 := by (refine' Cv.df_mk KX G ?a ?l ?c ?k Cv.bd11); (case a => k_is); (case l => k_is); (case c => k_is); (case k => k_is)
      d12 := by (refine' Cv.df_mk KX G ?a ?l ?c ?k Cv.bd12); (case a => k_is); (case l => k_is); (case c => k_is); (case k => k_is)
      d13 := by (refine' Cv.df_mk KX G ?a ?l ?c ?k Cv.bd13); (case a => k_is); (case l => k_is); (case c => k_is); (case k => k_is)
      d14 := by (refine' Cv.df_mk KX G ?a ?l ?c ?k Cv.bd14); (case a => k_is); (case l => k_is); (case c => k_is); (case k => k_is)
      d21 := by (refine' Cv.df_mk KX G ?a ?l ?c ?k Cv.bd21); (case a => k_is); (case l => k_is); (case c => k_is); (case k => k_is)
      d22 := by (refine' Cv.df_mk KX G ?a ?l ?c ?k Cv.bd22); (case a => k_is); (case l => k_is); (case c => k_is); (case k => k_is)
      d23 := by (refine' Cv.df_mk KX G ?a ?l ?c ?k Cv.bd23); (case a => k_is); (case l => k_is); (case c => k_is); (case k => k_is)
      d24 := by (refine' Cv.df_mk KX G ?a ?l ?c ?k Cv.bd24); (case a => k_is); (case l => k_is); (case c => k_is); (case k => k_is)
      d25 := by (refine' Cv.df_mk KX G ?a ?l ?c ?k Cv.bd25); (case a => k_is); (case l => k_is); (case c => k_is); (case k => k_is)
      d26 := by (refine' Cv.df_mk KX G ?a ?l ?c ?k Cv.bd26); (case a => k_is); (case l => k_is); (case c => k_is); (case k => k_is)
      d27 := by (refine' Cv.df_mk KX G ?a ?l ?c ?k Cv.bd27); (case a => k_is); (case l => k_is); (case c => k_is); (case k => k_is)
      d28 := by (refine' Cv.df_mk KX G ?a ?l ?c ?k Cv.bd28); (case a => k_is); (case l => k_is); (case c => k_is); (case k => k_is)
      d29 := by (refine' Cv.df_mk KX G ?a ?l ?c ?k Cv.bd29); (case a => k_is); (case l => k_is); (case c => k_is); (case k => k_is)
      d30 := by (refine' Cv.df_mk KX G ?a ?l ?c ?k Cv.bd30); (case a => k_is); (case l => k_is); (case c => k_is); (case k => k_is)
      d31 := by (refine' Cv.df_mk KX G ?a ?l ?c ?k Cv.bd31); (case a => k_is); (case l => k_is); (case c => k_is); (case k => k_is)
      d32 := by (refine' Cv.df_mk KX G ?a ?l ?c ?k Cv.bd32); (case a => k_is); (case l => k_is); (case c => k_is); (case k => k_is)
      d33 := by (refine' Cv.df_mk KX G ?a ?l ?c ?k Cv.bd33); (case a => k_is); (case l => k_is); (case c => k_is); (case k => k_is)
      d35 := by (refine' Cv.df_mk KX G ?a ?l ?c ?k Cv.bd35); (case a => k_is); (case l => k_is); (case c => k_is); (case k => k_is)
      d36 := by (refine' Cv.df_mk KX G ?a ?l ?c ?k Cv.bd36); (case a => k_is); (case l => k_is); (case c => k_is); (case k => k_is)
      d38 := by (refine' Cv.df_mk KX G ?a ?l ?c ?k Cv.bd38); (case a => k_is); (case l => k_is); (case c => k_is); (case k => k_is)
      d39 := by (refine' Cv.df_mk KX G ?a ?l ?c ?k Cv.bd39); (case a => k_is); (case l => k_is); (case c => k_is); (case k => k_is)
      d40 := by (refine' Cv.df_mk KX G ?a ?l ?c ?k Cv.bd40); (case a => k_is); (case l => k_is); (case c => k_is); (case k => k_is)
      d41 := by (refine' Cv.df_mk KX G ?a ?l ?c ?k Cv.bd41); (case a => k_is); (case l => k_is); (case c => k_is); (case k => k_is)
      d42 := by (refine' Cv.df_mk KX G ?a ?l ?c ?k Cv.bd42); (case a => k_is); (case l => k_is); (case c => k_is); (case k => k_is)
      d43 := by (refine' Cv.df_mk KX G ?a ?l ?c ?k Cv.bd43); (case a => k_is); (case l => k_is); (case c => k_is); (case k => k_is)
      d44 := by (refine' Cv.df_mk KX G ?a ?l ?c ?k Cv.bd44); (case a => k_is); (case l => k_is); (case c => k_is); (case k => k_is)
      d45 := by (refine' Cv.df_mk KX G ?a ?l ?c ?k Cv.bd45); (case a => k_is); (case l => k_is); (case c => k_is); (case k => k_is)
      d46 := by (refine' Cv.df_mk KX G ?a ?l ?c ?k Cv.bd46); (case a => k_is); (case l => k_is); (case c => k_is); (case k => k_is)
      d47 := by (refine' Cv.df_mk KX G ?a ?l ?c ?k Cv.bd47); (case a => k_is); (case l => k_is); (case c => k_is); (case k => k_is)
      d48 := by (refine' Cv.df_mk KX G ?a ?l ?c ?k Cv.bd48); (case a => k_is); (case l => k_is); (case c => k_is); (case k => k_is)
    }
    have mm : Cv.Mg mg := {
      abs := PySem.W.mg_none_of KX G (n := "abs") (by k_is)
      isi := PySem.W.mg_none_of KX G (n := "isinstance") (by k_is)
      int := PySem.W.mg_none_of KX G (n := "int") (by k_is)
      bool := PySem.W.mg_none_of KX G (n := "bool") (by k_is)
      tuple := PySem.W.mg_none_of KX G (n := "tuple") (by k_is)
      list := PySem.W.mg_none_of KX G (n := "list") (by k_is)
      len := PySem.W.mg_none_of KX G (n := "len") (by k_is)
      all := PySem.W.mg_none_of KX G (n := "all") (by k_is)
      range := PySem.W.mg_none_of KX G (n := "range") (by k_is)
      sum := PySem.W.mg_none_of KX G (n := "sum") (by k_is)
      enum := PySem.W.mg_none_of KX G (n := "enumerate") (by k_is)
      zip := PySem.W.mg_none_of KX G (n := "zip") (by k_is)
      max := PySem.W.mg_none_of KX G (n := "max") (by k_is)
      ll := Cv.cs_mk KX G (x := "LEAST_LENGTH") (by k_is)
      ml := Cv.cs_mk KX G (x := "MOST_LENGTH") (by k_is)
      ly := Cv.cs_mk KX G (x := "LEAST_YEAR") (by k_is)
      my := Cv.cs_mk KX G (x := "MOST_YEAR") (by k_is)
      mn := Cv.mn_of XP
    }
    refine' Cv.law_mk KX G hmg mm tx ?a2 ?l2 ?c2 ?k2
    (case a2 => k_is); (case l2 => k_is); (case c2 => k_is); (case k2 => k_is)
