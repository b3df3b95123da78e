import PyProof.Rows.All
import Wide.All
import OpenK.AllK
import Wide.FinOn
import PySem.Challenge.RW_pq1027_01
open PySem PySem.W PyProof.Rows PySem.Calls
set_option Elab.async false
set_option linter.all false
set_option maxRecDepth 100000
set_option genSizeOf false
set_option genSizeOfSpec false
set_option genInjectivity false
section
namespace Mine
noncomputable abbrev View := Addr → Option Obj
inductive V where
  | undef | none | bool (b : Bool) | int (i : Int) | str (x : Str)
  | tup (l : List V) | lst (l : List V) | real (m e : Int)
  | fn (F : Int → Option (Option (Int × Int))) | gl (x : Str) | ref (a : Addr)
structure Cx where
  prog : Program
  wd : World
  K : Frag
  h₀ : Heap
  p : Program
  loose : List Str
  mean : ExcName → Option Value
  mg : Str → Option Value
  mb : Str → Option Value
  tabs : List (Addr × Addr × Str)
  RC : Addr
noncomputable def TabsOK (C : Cx) (h : Heap) : Prop := ∀ t ∈ C.tabs, ∃ ps, h.get? t.2.1 = some (tabObj ps) ∧ TriplesOk ps.toList ∧
  ∀ pos cv, codeAmong pos ps.toList = some cv → h.CodeRec cv t.2.2
structure Cx.Good (C : Cx) : Prop where
  X : C.K.In C.h₀
  T : Top C.p C.loose C.mean C.mg C.mb C.h₀
  notab : ∀ t ∈ C.tabs, C.h₀.get? t.2.1 = none
  heads : ∀ t ∈ C.tabs, CodeHd C.h₀ t.1 t.2.1
  tabu : ∀ t ∈ C.tabs, ∀ t' ∈ C.tabs, t.2.1 = t'.2.1 → t.2.2 = t'.2.2
noncomputable def NT (C : Cx) (b : Addr) : Prop := ∀ t ∈ C.tabs, b ≠ t.2.1
noncomputable def NotCode (o : Obj) : Prop := ∀ vs x t, o.data = .fields vs → vs[1]? ≠ some (.str x t)
structure Ok (C : Cx) (w : View) (s : Shared) : Prop where
  vin : ∀ b o, w b = some o → s.heap.get? b = some o
  top : ∀ b o, C.h₀.get? b = some o → w b = some o
  tabs : TabsOK C s.heap
  hid : ∀ t ∈ C.tabs, w t.2.1 = none
structure Ext (C : Cx) (w : View) (s : Shared) (w' : View) (s' : Shared) : Prop where
  same : ∃ h tk, s' = { s with heap := h, toks := tk }
  keep : ∀ b o, NT C b → s.heap.get? b = some o → s'.heap.get? b = some o
  vle : ∀ b o, w b = some o → w' b = some o
  old : ∀ b o, NT C b → s.heap.get? b = some o → NotCode o → w' b = w b
theorem Ext.refl (C : Cx) (w : View) (s : Shared) : Ext C w s w s := ⟨⟨_, _, rfl⟩, fun _ _ _ e => e, fun _ _ e => e, fun _ _ _ _ _ => rfl⟩
theorem Ext.trans {C : Cx} {w w' w'' : View} {s s' s'' : Shared} (x : Ext C w s w' s') (y : Ext C w' s' w'' s'') : Ext C w s w'' s'' where
  same := by obtain ⟨h, tk, rfl⟩ := x.same; obtain ⟨h', tk', e⟩ := y.same; exact ⟨h', tk', e⟩
  keep := fun b o hb e => y.keep b o hb (x.keep b o hb e)
  vle := fun b o e => y.vle b o (x.vle b o e)
  old := fun b o hb e hd => (y.old b o hb (x.keep b o hb e) hd).trans (x.old b o hb e hd)
structure Room (A : Around) (n : Nat) : Prop where
  hand : A.handled = none
  depth : A.depth + n < recursionLimit
  units : A.units + 6 * n + 20 < cLine
theorem Room.le {A : Around} {n m : Nat} (r : Room A n) (h : m ≤ n) : Room A m := ⟨r.hand, by have := r.depth; omega, by have := r.units; omega⟩
theorem Room.deeper {A : Around} {n : Nat} (r : Room A (n + 1)) (env : Env) : Room (A.deeper env) n :=
  ⟨r.hand, by have := r.depth; show A.depth + 1 + n < _; omega, by have := r.units; show A.units + 3 + 6 * n + 20 < _; omega⟩
noncomputable def TupV (w : View) (a : Addr) (items : List Value) : Prop := ∃ o, w a = some o ∧ o.cls = .type "tuple" ∧ ∃ n, o.data = .seq items.toArray n
noncomputable def LstV (w : View) (a : Addr) (items : List Value) : Prop := ∃ o, w a = some o ∧ o.cls = .type "list" ∧ ∃ n, o.data = .seq items.toArray n
noncomputable def BRep (w : View) : Option (Int × Int) → Value → Prop
  | none, x => x = .none
  | some (a, b), x => ∃ ad t u, x = .ref ad ∧ TupV w ad [.int a t, .int b u]
noncomputable def fnRoom : Nat := 12
noncomputable def FnRep (C : Cx) (w : View) (F : Int → Option (Option (Int × Int))) (x : Value) : Prop :=
  (∃ a o fd, x = .ref a ∧ w a = some o ∧ o.data = .func fd) ∧
  ∀ k t b, F k = some b → ∀ (A : Around) (s : Shared) (w' : View) (Q E : Value → Shared → Prop), Room A fnRoom →
    (∀ b o, w b = some o → w' b = some o) → Ok C w' s →
    (∀ s' w'' y, Ext C w' s w'' s' → Ok C w'' s' → BRep w'' b y → Q y s') →
    wpAny (model C.prog C.wd) A (call x [.int k t]) Q E s
noncomputable def RealDict (es : List DictEntry) (m e : Int) : Prop :=
  (∃ t, getL "mantissa" es = some (some (.int m t))) ∧ (∃ t, getL "exponent" es = some (some (.int e t)))
noncomputable def RealV (C : Cx) (w : View) (m e : Int) (x : Value) : Prop :=
  ∃ a dx es n, x = .ref a ∧ w a = some (instObj C.RC dx) ∧ w dx = some (dictOf es n) ∧ RealDict es m e
mutual
noncomputable def Rep (C : Cx) (w : View) : V → Value → Prop
  | .undef, _ => False
  | .none, x => x = .none
  | .bool b, x => x = .bool b
  | .int i, x => ∃ t, x = .int i t
  | .str y, x => ∃ t, x = .str y t
  | .tup l, x => ∃ a items, x = .ref a ∧ TupV w a items ∧ Reps C w l items
  | .lst l, x => ∃ a items, x = .ref a ∧ LstV w a items ∧ Reps C w l items
  | .real m e, x => RealV C w m e x
  | .fn F, x => FnRep C w F x
  | .gl g, x => nsIn C.K mainGlobals g = some (some x)
  | .ref a, x => x = .ref a
noncomputable def Reps (C : Cx) (w : View) : List V → List Value → Prop
  | [], xs => xs = []
  | v :: r, xs => ∃ x ys, xs = x :: ys ∧ Rep C w v x ∧ Reps C w r ys
end
noncomputable def VLe (w w' : View) : Prop := ∀ b o, w b = some o → w' b = some o
theorem TupV.mono {w w' : View} (k : VLe w w') {a items} (x : TupV w a items) : TupV w' a items := let ⟨o, e, r⟩ := x; ⟨o, k _ _ e, r⟩
theorem LstV.mono {w w' : View} (k : VLe w w') {a items} (x : LstV w a items) : LstV w' a items := let ⟨o, e, r⟩ := x; ⟨o, k _ _ e, r⟩
theorem FnRep.mono {C : Cx} {w w' : View} (k : VLe w w') {F x} (h : FnRep C w F x) : FnRep C w' F x := by
  obtain ⟨⟨a, o, fd, e, g, d⟩, h2⟩ := h
  exact ⟨⟨a, o, fd, e, k _ _ g, d⟩, fun i t b hb A s w'' Q E r hw ok q => h2 i t b hb A s w'' Q E r (fun b o e => hw b o (k b o e)) ok q⟩
theorem RealV.mono {C : Cx} {w w' : View} (k : VLe w w') {m e x} (h : RealV C w m e x) : RealV C w' m e x :=
  let ⟨a, dx, es, n, h1, h2, h3, h4⟩ := h; ⟨a, dx, es, n, h1, k _ _ h2, k _ _ h3, h4⟩
mutual
theorem Rep.mono {C : Cx} {w w' : View} (k : VLe w w') : ∀ {v : V} {x : Value}, Rep C w v x → Rep C w' v x
  | .undef, _, h => h
  | .none, _, h => h
  | .bool _, _, h => h
  | .int _, _, h => h
  | .str _, _, h => h
  | .tup _, _, h => let ⟨a, items, e, t, r⟩ := h; ⟨a, items, e, t.mono k, Reps.mono k r⟩
  | .lst _, _, h => let ⟨a, items, e, t, r⟩ := h; ⟨a, items, e, t.mono k, Reps.mono k r⟩
  | .real _ _, _, h => RealV.mono k h
  | .fn _, _, h => FnRep.mono k h
  | .gl _, _, h => h
  | .ref _, _, h => h
theorem Reps.mono {C : Cx} {w w' : View} (k : VLe w w') : ∀ {vs : List V} {xs : List Value}, Reps C w vs xs → Reps C w' vs xs
  | [], _, h => h
  | _ :: _, _, h => let ⟨x, ys, e, a, b⟩ := h; ⟨x, ys, e, Rep.mono k a, Reps.mono k b⟩
end
theorem Reps.length {C : Cx} {w : View} : ∀ {vs : List V} {xs : List Value}, Reps C w vs xs → xs.length = vs.length
  | [], _, h => by rw [show _ = [] from h]; rfl
  | _ :: _, _, h => by obtain ⟨x, ys, rfl, _, b⟩ := h; simp [Reps.length b]
noncomputable def CallsTo (C : Cx) (n : Nat) (f : Value) (vs : List V) (P : V → Prop) : Prop :=
  ∀ (A : Around) (s : Shared) (w : View) (xs : List Value) (Q E : Value → Shared → Prop), Room A n → Ok C w s → Reps C w vs xs →
    (∀ v x w' s', P v → Ext C w s w' s' → Ok C w' s' → Rep C w' v x → Q x s') → wpAny (model C.prog C.wd) A (call f xs) Q E s
theorem CallsTo.up {C : Cx} {n m : Nat} {f vs P} (h : CallsTo C n f vs P) (hnm : n ≤ m) : CallsTo C m f vs P :=
  fun A s w xs Q E r => h A s w xs Q E (r.le hnm)
theorem CallsTo.imp {C : Cx} {n : Nat} {f vs P P'} (h : CallsTo C n f vs P) (hp : ∀ v, P v → P' v) : CallsTo C n f vs P' :=
  fun A s w xs Q E r ok rp q => h A s w xs Q E r ok rp fun v x w' s' hv => q v x w' s' (hp v hv)
noncomputable def Spec (C : Cx) (n : Nat) (g : Str) (vs : List V) (P : V → Prop) : Prop :=
  ∃ a, nsIn C.K mainGlobals g = some (some (.ref a)) ∧ keepIn C.K (.ref a) = true ∧ CallsTo C n (.ref a) vs P
theorem Spec.up {C : Cx} {n m : Nat} {f vs P} (h : Spec C n f vs P) (hnm : n ≤ m) : Spec C m f vs P :=
  let ⟨a, h1, h2, h3⟩ := h; ⟨a, h1, h2, h3.up hnm⟩
theorem Spec.imp {C : Cx} {n : Nat} {f vs P P'} (h : Spec C n f vs P) (hp : ∀ v, P v → P' v) : Spec C n f vs P' :=
  let ⟨a, h1, h2, h3⟩ := h; ⟨a, h1, h2, h3.imp hp⟩
structure Fc (C : Cx) where
  A : Around
  env : Env
  s₀ : Shared
  w₀ : View
  n : Nat
  room : Room A n
  kind : env.scope.kind = .function
  glob : env.globals = mainGlobals
  bltn : env.builtins = builtinsNs
  nodup : (env.scope.names.map (·.1)).Nodup
  nodbg : ∀ x ∈ env.scope.names.map (·.1), (x == ("__debug__" : Str)) = false ∧ (x == ("__classdict__" : Str)) = false
structure FI {C : Cx} (F : Fc C) (fz : Bool) (ρ : List V) (s : Shared) (w : View) : Prop where
  same : ∃ h tk, s = { F.s₀ with heap := h, toks := tk }
  keep : ∀ b o, NT C b → F.s₀.heap.get? b = some o → s.heap.get? b = some o
  vle : VLe F.w₀ w
  old : ∀ b o, NT C b → F.s₀.heap.get? b = some o → NotCode o → w b = F.w₀ b
  ok : Ok C w s
  fresh : F.s₀.heap.get? F.env.locals = none
  hidL : w F.env.locals = none
  ns : ∃ m, s.heap.Ns F.env.locals m ∧ ∀ (i : Nat) (x : Str) (v : V), F.env.scope.names[i]? = some (x, NameKind.local) → ρ[i]? = some v → v ≠ .undef → ∃ y, m x = some y ∧ Rep C w v y
  cells : ∀ (i : Nat) (x : Str) (k : NameKind) (c : Addr) (v : V), F.env.scope.names[i]? = some (x, k) → (k = NameKind.cell ∨ k = NameKind.free) → F.env.cells.lookup x = some c → ρ[i]? = some v → v ≠ .undef → ∃ y, s.heap.IsCell c (some y) ∧ Rep C w v y
  ownC : ∀ (x : Str) (c : Addr), F.env.scope.names.lookup x = some NameKind.cell → F.env.cells.lookup x = some c → F.s₀.heap.get? c = none ∧ (∃ o, s.heap.IsCell c o) ∧ (fz = false → w c = none) ∧ (fz = true → ∃ o, w c = some o)
  apart : ∀ (x y : Str) (c : Addr), F.env.cells.lookup x = some c → F.env.cells.lookup y = some c → x = y
theorem FI.toExt {C : Cx} {F : Fc C} {fz ρ s w} (h : FI F fz ρ s w) : Ext C F.w₀ F.s₀ w s := ⟨h.same, h.keep, h.vle, h.old⟩
theorem Ns_ne_tab {h : Heap} {L P : Addr} {m ps} (x : h.Ns L m) (e : h.get? P = some (tabObj ps)) : L ≠ P := by
  rintro rfl
  obtain ⟨o, es, ep, e', hd, _⟩ := x
  rw [e] at e'; cases e'; cases hd
theorem Cell_ne_tab {h : Heap} {c P : Addr} {v ps} (x : h.IsCell c v) (e : h.get? P = some (tabObj ps)) : c ≠ P := by
  rintro rfl
  obtain ⟨o, e', hd⟩ := x
  rw [e] at e'; cases e'; cases hd
theorem Cell_ne_ns {h : Heap} {c L : Addr} {v m} (x : h.IsCell c v) (y : h.Ns L m) : c ≠ L := by
  rintro rfl
  obtain ⟨o, e', hd⟩ := x
  obtain ⟨o', es, ep, e'', hd', _⟩ := y
  rw [e'] at e''; cases e''; rw [hd] at hd'; cases hd'
theorem IsCell.keep {h h' : Heap} {c : Addr} {v} (x : h.IsCell c v) (k : ∀ o, h.get? c = some o → h'.get? c = some o) : h'.IsCell c v := let ⟨o, e, d⟩ := x; ⟨o, k _ e, d⟩
theorem Ok.nt_ns {C : Cx} {w s} (h : Ok C w s) {L m} (x : s.heap.Ns L m) : NT C L := fun t ht => by
  obtain ⟨ps, e, _⟩ := h.tabs t ht; exact Ns_ne_tab x e
theorem Ok.nt_cell {C : Cx} {w s} (h : Ok C w s) {c v} (x : s.heap.IsCell c v) : NT C c := fun t ht => by
  obtain ⟨ps, e, _⟩ := h.tabs t ht; exact Cell_ne_tab x e
theorem Ok.nt_v {C : Cx} {w s} (h : Ok C w s) {b o} (x : w b = some o) : NT C b := fun t ht => by
  rintro rfl; rw [h.hid t ht] at x; cases x
theorem FI.ext {C : Cx} {F : Fc C} {fz ρ s w w' s'} (h : FI F fz ρ s w) (x : Ext C w s w' s') (ok : Ok C w' s') : FI F fz ρ s' w' := by
  refine ⟨?_, fun b o hb e => x.keep b o hb (h.keep b o hb e), fun b o e => x.vle b o (h.vle b o e), fun b o hb e hd => (x.old b o hb (h.keep b o hb e) hd).trans (h.old b o hb e hd), ok, h.fresh, ?_, ?_, ?_, ?_, h.apart⟩
  · obtain ⟨h1, tk, rfl⟩ := h.same; obtain ⟨h2, tk2, e⟩ := x.same; exact ⟨h2, tk2, e⟩
  · obtain ⟨m, hn, _⟩ := h.ns
    have hn' := hn
    obtain ⟨o, es, ep, e, r, _⟩ := hn
    rw [x.old _ o (h.ok.nt_ns hn') e (fun vs _ _ q => by rw [r] at q; cases q)]; exact h.hidL
  · obtain ⟨m, hn, hm⟩ := h.ns
    refine ⟨m, ?_, fun i y v a b c => let ⟨z, e, r⟩ := hm i y v a b c; ⟨z, e, r.mono x.vle⟩⟩
    have hn' := hn
    obtain ⟨o, es, ep, e, r⟩ := hn
    exact ⟨o, es, ep, x.keep _ _ (h.ok.nt_ns hn') e, r⟩
  · intro i y k c v a b d e f
    obtain ⟨z, hz, r⟩ := h.cells i y k c v a b d e f
    exact ⟨z, IsCell.keep hz fun o e => x.keep _ _ (h.ok.nt_cell hz) e, r.mono x.vle⟩
  · intro y c a b
    obtain ⟨h1, ⟨o, h2⟩, h3⟩ := h.ownC y c a b
    have h2' := h2
    refine ⟨h1, ⟨o, IsCell.keep h2 fun o e => x.keep _ _ (h.ok.nt_cell h2') e⟩, fun hf => ?_, fun hf => let ⟨o, e⟩ := h3.2 hf; ⟨o, x.vle _ _ e⟩⟩
    obtain ⟨oo, e, r⟩ := h2
    rw [x.old _ oo (h.ok.nt_cell h2') e (fun vs _ _ q => by rw [r] at q; cases q)]; exact h3.1 hf
noncomputable def EJ {C : Cx} (F : Fc C) (fz : Bool) (ρ : List V) (e : Expr) (Q : V → Prop) : Prop :=
  ∀ s w, FI F fz ρ s w → ∀ (R E : Value → Shared → Prop),
    (∀ v x s' w', Q v → Ext C w s w' s' → Ok C w' s' → Rep C w' v x → R x s') → wpAny (model C.prog C.wd) F.A (eval e F.env) R E s
noncomputable def TJ {C : Cx} (F : Fc C) (fz : Bool) (ρ : List V) (e : Expr) (Q : Bool → Prop) : Prop :=
  ∀ s w, FI F fz ρ s w → ∀ (R : Bool → Shared → Prop) (E : Value → Shared → Prop),
    (∀ b s' w', Q b → Ext C w s w' s' → Ok C w' s' → R b s') → wpAny (model C.prog C.wd) F.A (isTrue e F.env (eval e F.env)) R E s
noncomputable def LJ {C : Cx} (F : Fc C) (fz : Bool) (ρ : List V) (pos : Pos) (es : List Expr) (Q : List V → Prop) : Prop :=
  ∀ s w, FI F fz ρ s w → ∀ (R : List Value → Shared → Prop) (E : Value → Shared → Prop),
    (∀ vs xs s' w', Q vs → Ext C w s w' s' → Ok C w' s' → Reps C w' vs xs → R xs s') → wpAny (model C.prog C.wd) F.A (spliced (backTo pos (starEach es F.env))) R E s
noncomputable def SJ {C : Cx} (F : Fc C) (fz : Bool) (ρ : List V) (sts : List Stmt) (N : Bool → List V → Prop) (P : V → Prop) : Prop :=
  ∀ s w, FI F fz ρ s w → ∀ (R : Flow → Shared → Prop) (E : Value → Shared → Prop),
    (∀ fz' ρ' s' w', N fz' ρ' → FI F fz' ρ' s' w' → R .next s') → (∀ v x fz' ρ' s' w', P v → FI F fz' ρ' s' w' → Rep C w' v x → R (.ret x) s') →
    wpAny (model C.prog C.wd) F.A (execs sts F.env) R E s
noncomputable def S1 {C : Cx} (F : Fc C) (fz : Bool) (ρ : List V) (st : Stmt) (N : Bool → List V → Prop) (P : V → Prop) : Prop :=
  ∀ s w, FI F fz ρ s w → ∀ (R : Flow → Shared → Prop) (E : Value → Shared → Prop),
    (∀ fz' ρ' s' w', N fz' ρ' → FI F fz' ρ' s' w' → R .next s') → (∀ v x fz' ρ' s' w', P v → FI F fz' ρ' s' w' → Rep C w' v x → R (.ret x) s') →
    wpAny (model C.prog C.wd) F.A (exec st F.env) R E s
end Mine
end
section
namespace Mine
section
variable {C : Cx}
theorem TabsOK.keep {h h' : Heap} (x : TabsOK C h) (k : ∀ b o, h.get? b = some o → h'.get? b = some o) : TabsOK C h' := fun t ht => by
  obtain ⟨ps, e, a, b⟩ := x t ht
  exact ⟨ps, k _ _ e, a, fun pos cv q => (b pos cv q).keeps k⟩
theorem Ok.keep {w : View} {s : Shared} {h' : Heap} {tk : Nat} (x : Ok C w s) (k : ∀ b o, s.heap.get? b = some o → h'.get? b = some o) : Ok C w { s with heap := h', toks := tk } :=
  ⟨fun b o e => k b o (x.vin b o e), x.top, x.tabs.keep k, x.hid⟩
theorem Ext.of_keep {w : View} {s : Shared} {h' : Heap} {tk : Nat} (k : ∀ b o, s.heap.get? b = some o → h'.get? b = some o) : Ext C w s w { s with heap := h', toks := tk } :=
  ⟨⟨_, _, rfl⟩, fun b o _ e => k b o e, fun _ _ e => e, fun _ _ _ _ _ => rfl⟩
theorem Ok.toks {w : View} {s : Shared} (x : Ok C w s) (tk : Nat) : Ok C w { s with toks := tk } := x.keep (h' := s.heap) fun _ _ e => e
theorem Ext.toks (w : View) (s : Shared) (tk : Nat) : Ext C w s w { s with toks := tk } := Ext.of_keep (h' := s.heap) fun _ _ e => e
noncomputable def put (w : View) (a : Addr) (o : Obj) : View := fun b => if b = a then some o else w b
theorem put_self (w : View) (a : Addr) (o : Obj) : put w a o a = some o := if_pos rfl
theorem put_ne {w : View} {a b : Addr} {o : Obj} (h : b ≠ a) : put w a o b = w b := if_neg h
theorem Ok.none_size {w : View} {s : Shared} (x : Ok C w s) : w s.heap.objs.size = none := by
  cases q : w s.heap.objs.size with
  | none => rfl
  | some o => exact absurd (Heap.lt_size (x.vin _ _ q)) (Nat.lt_irrefl _)
theorem VLe.put {w : View} {a : Addr} {o : Obj} (h : w a = none) : VLe w (put w a o) := fun b x e => by
  rw [put_ne (fun q => by rw [q, h] at e; cases e)]; exact e
theorem Ok.alloc {w : View} {s : Shared} (x : Ok C w s) {o : Obj} (ho : o.isFreed = false) (tk : Nat) : Ok C (put w s.heap.objs.size o) { s with heap := s.heap.push o, toks := tk } := by
  refine ⟨fun b y e => ?_, fun b y e => VLe.put x.none_size _ _ (x.top b y e), x.tabs.keep fun b y e => Heap.get?_push_of_some _ e, fun t ht => ?_⟩
  · by_cases hb : b = s.heap.objs.size
    · subst hb; rw [put_self] at e; cases e; exact Heap.get?_push_size _ ho
    · rw [put_ne hb] at e; exact Heap.get?_push_of_some _ (x.vin _ _ e)
  · obtain ⟨ps, e, _⟩ := x.tabs t ht
    rw [put_ne (Nat.ne_of_lt (Heap.lt_size e))]; exact x.hid t ht
theorem Ext.alloc {w : View} {s : Shared} (x : Ok C w s) (o : Obj) (tk : Nat) : Ext C w s (put w s.heap.objs.size o) { s with heap := s.heap.push o, toks := tk } :=
  ⟨⟨_, _, rfl⟩, fun b y _ e => Heap.get?_push_of_some _ e, VLe.put x.none_size, fun b y _ e _ => put_ne (Nat.ne_of_lt (Heap.lt_size e))⟩
theorem Ok.heap₀ {w : View} {s : Shared} (x : Ok C w s) : ∀ b o, C.h₀.get? b = some o → s.heap.get? b = some o := fun b o e => x.vin _ _ (x.top _ _ e)
theorem TupV.of {w : View} {s : Shared} (ok : Ok C w s) {a items} (x : TupV w a items) : IsTup s.heap a items.toArray := let ⟨o, e, r⟩ := x; ⟨o, ok.vin _ _ e, r⟩
theorem TupV.of' {w : View} {s : Shared} (ok : Ok C w s) {a items} (x : TupV w a items) : s.heap.IsTuple a items.toArray := let ⟨o, e, r⟩ := x; ⟨o, ok.vin _ _ e, r⟩
theorem LstV.of {w : View} {s : Shared} (ok : Ok C w s) {a items} (x : LstV w a items) : s.heap.IsList a items.toArray := let ⟨o, e, r⟩ := x; ⟨o, ok.vin _ _ e, r⟩
theorem lookup_of_get {α : Type} : ∀ {l : List (Str × α)} {i : Nat} {x : Str} {k : α}, (l.map (·.1)).Nodup → l[i]? = some (x, k) → l.lookup x = some k
  | (y, k') :: r, 0, x, k, _, e => by cases e; rw [List.lookup_cons, beq_self_eq_true]
  | (y, k') :: r, i + 1, x, k, hn, e => by
    have hn' : y ∉ r.map (·.1) ∧ (r.map (·.1)).Nodup := List.nodup_cons.mp hn
    have e' : r[i]? = some (x, k) := e
    have : x ≠ y := fun q => hn'.1 (q ▸ List.mem_map_of_mem (List.mem_of_getElem? e'))
    rw [List.lookup_cons, beq_eq_false_iff_ne.mpr this]
    exact lookup_of_get hn'.2 e'
theorem Fc.dbg (F : Fc C) {i : Nat} {x : Str} {k : NameKind} (hn : F.env.scope.names[i]? = some (x, k)) : (x == ("__debug__" : Str)) = false := (F.nodbg x (List.mem_map_of_mem (f := (·.1)) (List.mem_of_getElem? hn))).1
theorem Fc.cld (F : Fc C) {i : Nat} {x : Str} {k : NameKind} (hn : F.env.scope.names[i]? = some (x, k)) : (x == ("__classdict__" : Str)) = false := (F.nodbg x (List.mem_map_of_mem (f := (·.1)) (List.mem_of_getElem? hn))).2
theorem Fc.kindOf (F : Fc C) {i : Nat} {x : Str} {k : NameKind} (hn : F.env.scope.names[i]? = some (x, k)) : F.env.kindOf x = some k := lookup_of_get F.nodup hn
variable {F : Fc C} {fz : Bool} {ρ : List V}
theorem EJ.imp {e : Expr} {Q Q' : V → Prop} (h : EJ F fz ρ e Q) (k : ∀ v, Q v → Q' v) : EJ F fz ρ e Q' := fun s w x R E r => h s w x R E fun v y s' w' q => r v y s' w' (k v q)
theorem ej_int {i k pos} {Q : V → Prop} (h : Q (.int i)) : EJ F fz ρ (.Constant (.int i) k pos) Q := fun s w x R E r =>
  wpAny_Constant_int (r _ _ _ w h (Ext.toks w s _) (x.ok.toks _) ⟨_, rfl⟩)
theorem ej_none {k pos} {Q : V → Prop} (h : Q .none) : EJ F fz ρ (.Constant .none k pos) Q := fun s w x R E r =>
  wpAny_Constant_none (r _ _ _ w h (Ext.refl ..) x.ok rfl)
theorem ej_bool {b k pos} {Q : V → Prop} (h : Q (.bool b)) : EJ F fz ρ (.Constant (.bool b) k pos) Q := fun s w x R E r =>
  wpAny_Constant_bool (r _ _ _ w h (Ext.refl ..) x.ok rfl)
theorem ej_str {y k pos} {Q : V → Prop} (h : Q (.str y)) : EJ F fz ρ (.Constant (.str y) k pos) Q := fun s w x R E r =>
  wpAny_Constant_str (r _ _ _ w h (Ext.toks w s _) (x.ok.toks _) ⟨_, rfl⟩)
theorem ej_local (i : Nat) {x pos v} {Q : V → Prop} (hn : F.env.scope.names[i]? = some (x, NameKind.local)) (hρ : ρ[i]? = some v) (hv : v ≠ .undef) (h : Q v) :
    EJ F fz ρ (.Name x pos) Q := fun s w fi R E r => by
  obtain ⟨m, hns, hm⟩ := fi.ns
  obtain ⟨y, hy, hr⟩ := hm i x v hn hρ hv
  exact wpAny_Name (wpAny_loadName_local F.kind (F.kindOf hn) hns hy (r _ _ _ w h (Ext.refl ..) fi.ok hr)) (F.dbg hn)
theorem ej_cell (i : Nat) {x pos v c} {Q : V → Prop} (hn : F.env.scope.names[i]? = some (x, NameKind.cell)) (hc : F.env.cells.lookup x = some c) (hρ : ρ[i]? = some v) (hv : v ≠ .undef) (h : Q v) :
    EJ F fz ρ (.Name x pos) Q := fun s w fi R E r => by
  obtain ⟨y, hy, hr⟩ := fi.cells i x _ c v hn (.inl rfl) hc hρ hv
  exact wpAny_Name (wpAny_loadName_cell F.kind (F.kindOf hn) hc hy (r _ _ _ w h (Ext.refl ..) fi.ok hr)) (F.dbg hn)
theorem ej_free (i : Nat) {x pos v c} {Q : V → Prop} (hn : F.env.scope.names[i]? = some (x, NameKind.free)) (hc : F.env.cells.lookup x = some c) (hρ : ρ[i]? = some v) (hv : v ≠ .undef) (h : Q v) :
    EJ F fz ρ (.Name x pos) Q := fun s w fi R E r => by
  obtain ⟨y, hy, hr⟩ := fi.cells i x _ c v hn (.inr rfl) hc hρ hv
  exact wpAny_Name (wpAny_loadName_free F.kind (F.kindOf hn) hc hy (r _ _ _ w h (Ext.refl ..) fi.ok hr) (F.cld hn)) (F.dbg hn)
noncomputable def GlobV (C : Cx) (g : Str) (v : V) : Prop := ∃ y, nsIn C.K mainGlobals g = some (some y) ∧ ∀ w s, Ok C w s → Rep C w v y
theorem load_glob (G : C.Good) {s : Shared} {w : View} {x : Str} {pos : Pos} {y : Value} {R E : Value → Shared → Prop} (fi : FI F fz ρ s w) {i : Nat} (hn : F.env.scope.names[i]? = some (x, NameKind.globalImplicit)) (e : nsIn C.K mainGlobals x = some (some y)) (h : R y s) :
    wpAny (model C.prog C.wd) F.A (eval (.Name x pos) F.env) R E s :=
  Name_function_global F.kind (F.kindOf hn) (loadGlobal_global (by rw [F.glob]; exact G.T.g.keeps fi.ok.heap₀) (mg_of G.X G.T.g e) h) (F.dbg hn)
theorem load_bltn (G : C.Good) {s : Shared} {w : View} {x : Str} {pos : Pos} {y : Value} {R E : Value → Shared → Prop} (fi : FI F fz ρ s w) {i : Nat} (hn : F.env.scope.names[i]? = some (x, NameKind.globalImplicit)) (e : nsIn C.K mainGlobals x = some none) (hv : bootBuiltins x = some y) (hne : x ≠ "__name__") (h : R y s) :
    wpAny (model C.prog C.wd) F.A (eval (.Name x pos) F.env) R E s :=
  Name_function_global F.kind (F.kindOf hn) (loadGlobal_builtin (by rw [F.glob]; exact G.T.g.keeps fi.ok.heap₀) (mg_none_of G.X G.T.g e) (by rw [F.bltn]; exact G.T.b.keeps fi.ok.heap₀) ((G.T.builtins x hne).trans hv) h) (F.dbg hn)
theorem ej_glob (G : C.Good) (i : Nat) {x pos v} {Q : V → Prop} (hn : F.env.scope.names[i]? = some (x, NameKind.globalImplicit)) (hg : GlobV C x v) (h : Q v) :
    EJ F fz ρ (.Name x pos) Q := fun s w fi R E r => by
  obtain ⟨y, e, hy⟩ := hg
  exact load_glob G fi hn e (r _ _ _ w h (Ext.refl ..) fi.ok (hy w s fi.ok))
noncomputable def Sm (i : Int) : Prop := i.natAbs < 2 ^ 8000
theorem Sm.log2 {i : Int} (h : Sm i) : i.natAbs.log2 < 8000 := by
  by_cases h0 : i.natAbs = 0
  · rw [h0]; decide
  · exact (Nat.log2_lt h0).mpr h
theorem Sm.bits {i : Int} (h : Sm i) : Builtin.Int.intBits i ≤ 8000 := by
  unfold Builtin.Int.intBits
  split
  · exact Nat.zero_le _
  · exact h.log2
inductive BinQ (Q : V → Prop) : Operator → V → V → Prop
  | add {a b : Int} (h : Q (.int (a + b))) : BinQ Q .Add (.int a) (.int b)
  | sub {a b : Int} (h : Q (.int (a - b))) : BinQ Q .Sub (.int a) (.int b)
  | subb {a b : Bool} (h : Q (.int (b2i a - b2i b))) : BinQ Q .Sub (.bool a) (.bool b)
  | mul {a b : Int} (ha : Sm a) (hb : Sm b) (h : Q (.int (a * b))) : BinQ Q .Mult (.int a) (.int b)
  | div {a b : Int} (hb : b ≠ 0) (hs : Sm b) (h : Q (.int (a.fdiv b))) : BinQ Q .FloorDiv (.int a) (.int b)
  | mod {a b : Int} (hb : b ≠ 0) (h : Q (.int (a.fmod b))) : BinQ Q .Mod (.int a) (.int b)
  | shl {a n : Int} (ha : Sm a) (h0 : 0 ≤ n) (h1 : n ≤ 100000) (h : Q (.int (a * 2 ^ n.toNat))) : BinQ Q .LShift (.int a) (.int n)
  | shr {a n : Int} (h0 : 0 ≤ n) (h : Q (.int (a.fdiv (2 ^ n.toNat)))) : BinQ Q .RShift (.int a) (.int n)
  | and {a b : Int} (h : Q (.int (Builtin.bitAnd a b))) : BinQ Q .BitAnd (.int a) (.int b)
theorem ints2 {R : Value → Value → Prop} {w : View} {a b : Int} {x y : Value} (ha : Rep C w (.int a) x) (hb : Rep C w (.int b) y) (h : ∀ t u, R (.int a t) (.int b u)) : R x y := by
  obtain ⟨t, rfl⟩ := ha; obtain ⟨u, rfl⟩ := hb; exact h t u
theorem wp_bin {A : Around} {s : Shared} {w : View} {op : Operator} {a b : V} {x y : Value} {Q : V → Prop} {R E : Value → Shared → Prop} (ok : Ok C w s) (ha : Rep C w a x) (hb : Rep C w b y) (h : BinQ Q op a b)
    (r : ∀ v z s' w', Q v → Ext C w s w' s' → Ok C w' s' → Rep C w' v z → R z s') : wpAny (model C.prog C.wd) A (binaryOp op x y) R E s := by
  have fin : ∀ i : Int, Q (.int i) → R (.int i s.toks) { s with toks := s.toks + 1 } := fun i q => r _ _ _ w q (Ext.toks w s _) (ok.toks _) ⟨_, rfl⟩
  cases h with
  | add h => exact ints2 (R := fun x y => wpAny _ A (binaryOp .Add x y) R E s) ha hb fun t u => add_int (fin _ h)
  | sub h => exact ints2 (R := fun x y => wpAny _ A (binaryOp .Sub x y) R E s) ha hb fun t u => sub_int' (fin _ h)
  | subb h => cases ha; cases hb; exact sub_bool (fin _ h)
  | mul h1 h2 h => exact ints2 (R := fun x y => wpAny _ A (binaryOp .Mult x y) R E s) ha hb fun t u => mul_int (fin _ h) (mulOk_of_bits h1.bits h2.bits (by decide))
  | div h1 h2 h => exact ints2 (R := fun x y => wpAny _ A (binaryOp .FloorDiv x y) R E s) ha hb fun t u => floordiv_int h1 (fin _ h) (Or.inl (PyProof.noPylong_of_log2 (Nat.lt_trans h2.log2 (by decide))))
  | mod h1 h => exact ints2 (R := fun x y => wpAny _ A (binaryOp .Mod x y) R E s) ha hb fun t u => mod_int' h1 (fin _ h)
  | shl h1 h2 h3 h => exact ints2 (R := fun x y => wpAny _ A (binaryOp .LShift x y) R E s) ha hb fun t u => lshift_int h2 (by have := h1.bits; omega) (fin _ h)
  | shr h1 h => exact ints2 (R := fun x y => wpAny _ A (binaryOp .RShift x y) R E s) ha hb fun t u => rshift_int h1 (fin _ h)
  | and h => exact ints2 (R := fun x y => wpAny _ A (binaryOp .BitAnd x y) R E s) ha hb fun t u => and_int (fin _ h)
theorem ej_bin {op l r pos} {Q : V → Prop} (h : EJ F fz ρ l fun a => EJ F fz ρ r fun b => BinQ Q op a b) : EJ F fz ρ (.BinOp l op r pos) Q := fun s w fi R E k =>
  wpAny_BinOp (h s w fi _ E fun a x s₁ w₁ h₁ x₁ ok₁ ra => h₁ s₁ w₁ (fi.ext x₁ ok₁) _ E fun b y s₂ w₂ h₂ x₂ ok₂ rb =>
    wp_bin ok₂ (ra.mono x₂.vle) rb h₂ fun v z s₃ w₃ q x₃ ok₃ rz => k v z s₃ w₃ q (x₁.trans (x₂.trans x₃)) ok₃ rz)
inductive CmpQ (Q : Bool → Prop) : CmpOp → V → V → Prop
  | lt {a b : Int} (h : Q (decide (a < b))) : CmpQ Q .Lt (.int a) (.int b)
  | le {a b : Int} (h : Q (decide (a ≤ b))) : CmpQ Q .LtE (.int a) (.int b)
  | gt {a b : Int} (h : Q (decide (b < a))) : CmpQ Q .Gt (.int a) (.int b)
  | ge {a b : Int} (h : Q (decide (b ≤ a))) : CmpQ Q .GtE (.int a) (.int b)
  | eq {a b : Int} (h : Q (decide (a = b))) : CmpQ Q .Eq (.int a) (.int b)
  | ne {a b : Int} (h : Q (!decide (a = b))) : CmpQ Q .NotEq (.int a) (.int b)
  | nn (h : Q false) : CmpQ Q .IsNot .none .none
  | nt {l : List V} (h : Q true) : CmpQ Q .IsNot (.tup l) .none
  | nr {m e : Int} (h : Q true) : CmpQ Q .IsNot (.real m e) .none
theorem wp_cmp {A : Around} {s : Shared} {w : View} {op : CmpOp} {a b : V} {x y : Value} {Q : Bool → Prop} {R E : Value → Shared → Prop} (ha : Rep C w a x) (hb : Rep C w b y) (h : CmpQ Q op a b)
    (r : ∀ c, Q c → R (.bool c) s) : wpAny (model C.prog C.wd) A (compareOp op x y) R E s := by
  cases h with
  | lt h => exact ints2 (R := fun x y => wpAny _ A (compareOp .Lt x y) R E s) ha hb fun t u => lt_int (r _ h)
  | le h => exact ints2 (R := fun x y => wpAny _ A (compareOp .LtE x y) R E s) ha hb fun t u => le_int (r _ h)
  | gt h => exact ints2 (R := fun x y => wpAny _ A (compareOp .Gt x y) R E s) ha hb fun t u => gt_int (r _ h)
  | ge h => exact ints2 (R := fun x y => wpAny _ A (compareOp .GtE x y) R E s) ha hb fun t u => ge_int (r _ h)
  | eq h => exact ints2 (R := fun x y => wpAny _ A (compareOp .Eq x y) R E s) ha hb fun t u => eq_int (r _ h)
  | ne h => exact ints2 (R := fun x y => wpAny _ A (compareOp .NotEq x y) R E s) ha hb fun t u => ne_int (r _ h)
  | nn h => cases ha; cases hb; exact isNot_none (r _ h)
  | nt h => obtain ⟨ad, its, rfl, _⟩ := ha; cases hb; exact isNot_none (r _ h)
  | nr h => obtain ⟨ad, dx, es, n, rfl, _⟩ := ha; cases hb; exact isNot_none (r _ h)
theorem ej_cmp {op l r pos} {Q : V → Prop} (h : EJ F fz ρ l fun a => EJ F fz ρ r fun b => CmpQ (fun c => Q (.bool c)) op a b) (hm : behindInMarks op r = false) : EJ F fz ρ (.Compare l [op] [r] pos) Q := fun s w fi R E k =>
  wpAny_Compare1 (h s w fi _ E fun a x s₁ w₁ h₁ x₁ ok₁ ra => h₁ s₁ w₁ (fi.ext x₁ ok₁) _ E fun b y s₂ w₂ h₂ x₂ ok₂ rb =>
    wp_cmp (ra.mono x₂.vle) rb h₂ fun c hc => k _ _ _ w₂ hc (x₁.trans x₂) ok₂ rfl) hm
theorem tj_cmp {op l r pos} {Q : Bool → Prop} (h : EJ F fz ρ l fun a => EJ F fz ρ r fun b => CmpQ Q op a b) (hm : behindInMarks op r = false) : TJ F fz ρ (.Compare l [op] [r] pos) Q := fun s w fi R E k =>
  wpAny_isTrue_Compare1 (h s w fi _ E fun a x s₁ w₁ h₁ x₁ ok₁ ra => h₁ s₁ w₁ (fi.ext x₁ ok₁) _ E fun b y s₂ w₂ h₂ x₂ ok₂ rb =>
    wp_cmp (ra.mono x₂.vle) rb h₂ fun c hc => wpAny_truthy_bool (k _ _ w₂ hc (x₁.trans x₂) ok₂)) hm
noncomputable def BoolQ (Q : Bool → Prop) : V → Prop
  | .bool b => Q b
  | _ => False
theorem wp_truth {M : Model} {A : Around} {s : Shared} {w : View} {v : V} {x : Value} {Q : Bool → Prop} {R : Bool → Shared → Prop} {E : Value → Shared → Prop} (hv : Rep C w v x) (h : BoolQ Q v) (r : ∀ b, Q b → R b s) : wpAny M A (truthy x) R E s := by
  cases v <;> first | exact h.elim | skip
  obtain rfl := hv
  exact wpAny_truthy_bool (r _ h)
theorem tj_value {e : Expr} {Q : Bool → Prop} (h : EJ F fz ρ e (BoolQ Q)) (he : ∀ whole, isTrue e F.env whole = (do let v ← whole; standAt e.pos; holding [v] (truthy v))) : TJ F fz ρ e Q := fun s w fi R E k =>
  wpAny_isTrue_value (h s w fi _ E fun v x s₁ w₁ h₁ x₁ ok₁ rv => wp_truth rv h₁ fun b hb => k b s₁ w₁ hb x₁ ok₁) (he _)
theorem tj_not {e : Expr} {pos} {Q : Bool → Prop} (h : TJ F fz ρ e fun b => Q (!b)) : TJ F fz ρ (.UnaryOp .Not e pos) Q := fun s w fi R E k =>
  wpAny_isTrue_Not (h s w fi _ E fun b s₁ w₁ hb x₁ ok₁ => k _ s₁ w₁ hb x₁ ok₁)
noncomputable def AJ (F : Fc C) (fz : Bool) (ρ : List V) (op : BoolOp) (es : List Expr) (Q : Bool → Prop) : Prop :=
  ∀ s w, FI F fz ρ s w → ∀ (R : Bool → Shared → Prop) (E : Value → Shared → Prop),
    (∀ b s' w', Q b → Ext C w s w' s' → Ok C w' s' → R b s') → wpAny (model C.prog C.wd) F.A (allTrue op es F.env) R E s
theorem aj_and_nil {Q : Bool → Prop} (h : Q true) : AJ F fz ρ .And [] Q := fun s w fi R E k => wpAny_allTrue_And_nil (k _ _ w h (Ext.refl ..) fi.ok)
theorem aj_or_nil {Q : Bool → Prop} (h : Q false) : AJ F fz ρ .Or [] Q := fun s w fi R E k => wpAny_allTrue_Or_nil (k _ _ w h (Ext.refl ..) fi.ok)
theorem aj_and_cons {e es} {Q : Bool → Prop} (h : TJ F fz ρ e fun b => if b = true then AJ F fz ρ .And es Q else Q false) : AJ F fz ρ .And (e :: es) Q := fun s w fi R E k =>
  wpAny_allTrue_And_cons (h s w fi _ E fun b s₁ w₁ hb x₁ ok₁ => by
    cases b
    · exact k _ _ w₁ hb x₁ ok₁
    · exact hb s₁ w₁ (fi.ext x₁ ok₁) R E fun b' s' w' q x' ok' => k b' s' w' q (x₁.trans x') ok')
theorem aj_or_cons {e es} {Q : Bool → Prop} (h : TJ F fz ρ e fun b => if b = true then Q true else AJ F fz ρ .Or es Q) : AJ F fz ρ .Or (e :: es) Q := fun s w fi R E k =>
  wpAny_allTrue_Or_cons (h s w fi _ E fun b s₁ w₁ hb x₁ ok₁ => by
    cases b
    · exact hb s₁ w₁ (fi.ext x₁ ok₁) R E fun b' s' w' q x' ok' => k b' s' w' q (x₁.trans x') ok'
    · exact k _ _ w₁ hb x₁ ok₁)
theorem tj_boolop {op es pos} {Q : Bool → Prop} (h : AJ F fz ρ op es Q) : TJ F fz ρ (.BoolOp op es pos) Q := fun s w fi R E k => wpAny_isTrue_BoolOp (h s w fi R E k)
theorem ej_ite {t b o pos} {Q : V → Prop} (h : TJ F fz ρ t fun c => if c = true then EJ F fz ρ b Q else EJ F fz ρ o Q) : EJ F fz ρ (.IfExp t b o pos) Q := fun s w fi R E k =>
  wpAny_IfExp (h s w fi _ E fun c s₁ w₁ hc x₁ ok₁ => by
    cases c
    · exact hc s₁ w₁ (fi.ext x₁ ok₁) R E fun v x s' w' q x' ok' => k v x s' w' q (x₁.trans x') ok'
    · exact hc s₁ w₁ (fi.ext x₁ ok₁) R E fun v x s' w' q x' ok' => k v x s' w' q (x₁.trans x') ok')
theorem ej_not {e pos} {Q : V → Prop} (h : EJ F fz ρ e (BoolQ fun b => Q (.bool !b))) : EJ F fz ρ (.UnaryOp .Not e pos) Q := fun s w fi R E k =>
  wpAny_UnaryOp (h s w fi _ E fun v x s₁ w₁ h₁ x₁ ok₁ rv => not_value (wp_truth rv h₁ fun b hb => k _ _ _ w₁ hb x₁ ok₁ rfl))
theorem ej_and2 {x y pos} {Q : V → Prop} (h : EJ F fz ρ x (BoolQ fun b => if b = true then EJ F fz ρ y Q else Q (.bool false))) : EJ F fz ρ (.BoolOp .And [x, y] pos) Q := fun s w fi R E k =>
  wpAny_And2 (h s w fi _ E fun v z s₁ w₁ h₁ x₁ ok₁ rv => by
    cases v <;> first | exact h₁.elim | skip
    rename_i c
    obtain rfl := rv
    have h1 : (if c = true then EJ F fz ρ y Q else Q (.bool false)) := h₁
    refine wpAny_truthy_bool ?_
    cases c
    · exact k _ _ _ w₁ h1 x₁ ok₁ rfl
    · exact h1 s₁ w₁ (fi.ext x₁ ok₁) R E fun v x s' w' q x' ok' => k v x s' w' q (x₁.trans x') ok')
end
end Mine
end
section
namespace Mine
section
variable {C : Cx} {F : Fc C} {fz : Bool} {ρ : List V}
theorem lj_nil {pos} {Q : List V → Prop} (h : Q []) : LJ F fz ρ pos [] Q := fun s w fi R E k => wpAny_items_nil (k _ _ _ w h (Ext.refl ..) fi.ok rfl)
theorem lj_cons {pos e es} {Q : List V → Prop} (h : EJ F fz ρ e fun v => LJ F fz ρ pos es fun vs => Q (v :: vs))
    (he : starEach (e :: es) F.env = (false, eval e F.env) :: starEach es F.env) : LJ F fz ρ pos (e :: es) Q := fun s w fi R E k =>
  wpAny_items_cons (h s w fi _ E fun v x s₁ w₁ h₁ x₁ ok₁ rv => h₁ s₁ w₁ (fi.ext x₁ ok₁) _ E fun vs xs s₂ w₂ h₂ x₂ ok₂ rvs =>
    k _ _ _ w₂ h₂ (x₁.trans x₂) ok₂ ⟨_, _, rfl, rv.mono x₂.vle, rvs⟩) he
noncomputable def tupObj (xs : List Value) : Obj := { cls := .type "tuple", data := .seq xs.toArray }
noncomputable def lstObj (xs : List Value) : Obj := { cls := .type "list", data := .seq xs.toArray }
theorem tupV_put (w : View) (a : Addr) (xs : List Value) : TupV (put w a (tupObj xs)) a xs := ⟨_, put_self .., rfl, _, rfl⟩
theorem lstV_put (w : View) (a : Addr) (xs : List Value) : LstV (put w a (lstObj xs)) a xs := ⟨_, put_self .., rfl, _, rfl⟩
theorem ej_tuple {es n pos} {Q : V → Prop} (h : LJ F fz ρ pos es fun vs => vs.length ≤ 1000 ∧ Q (.tup vs)) : EJ F fz ρ (.Tuple es n pos) Q := fun s w fi R E k =>
  wpAny_Tuple (h s w fi _ E fun vs xs s₁ w₁ h₁ x₁ ok₁ rv => ⟨by rw [rv.length, sizeLine_eq]; omega,
    k _ _ _ _ h₁.2 (x₁.trans (Ext.alloc ok₁ (tupObj xs) _)) (ok₁.alloc (o := tupObj xs) rfl _) ⟨_, xs, rfl, tupV_put .., rv.mono (VLe.put ok₁.none_size)⟩⟩)
theorem ej_list {es pos} {Q : V → Prop} (h : LJ F fz ρ pos es fun vs => vs.length ≤ 1000 ∧ Q (.lst vs)) : EJ F fz ρ (.List es pos) Q := fun s w fi R E k =>
  wpAny_List (h s w fi _ E fun vs xs s₁ w₁ h₁ x₁ ok₁ rv => ⟨by rw [rv.length, sizeLine_eq]; omega,
    k _ _ _ _ h₁.2 (x₁.trans (Ext.alloc ok₁ (lstObj xs) _)) (ok₁.alloc (o := lstObj xs) rfl _) ⟨_, xs, rfl, lstV_put .., rv.mono (VLe.put ok₁.none_size)⟩⟩)
theorem Reps.get {w : View} : ∀ {vs : List V} {xs : List Value} {i : Nat} {v : V}, Reps C w vs xs → vs[i]? = some v → ∃ x, xs[i]? = some x ∧ Rep C w v x
  | _ :: _, _, 0, v, h, e => by obtain ⟨x, ys, rfl, a, b⟩ := h; cases e; exact ⟨x, rfl, a⟩
  | _ :: _, _, i + 1, v, h, e => by
    obtain ⟨x, ys, rfl, a, b⟩ := h
    obtain ⟨z, h1, h2⟩ := Reps.get b (show _ = some v from e)
    exact ⟨z, h1, h2⟩
noncomputable def ItemQ (k : Nat) (Q : V → Prop) : V → Prop
  | .tup vs => ∃ v, vs[k]? = some v ∧ Q v
  | _ => False
theorem seqIndex_nat {k n : Nat} (h : k < n) : seqIndex? (k : Int) n = some k := by
  unfold seqIndex?
  have h1 : ¬ ((k : Int) < 0) := by omega
  have h2 : (k : Int) < (n : Int) := by omega
  simp [h1, h2]
theorem ej_item {value k kd p pos} {Q : V → Prop} (h : EJ F fz ρ value (ItemQ k Q)) (hk : k < 100) : EJ F fz ρ (.Subscript value (.Constant (.int (k : Int)) kd p) pos) Q := fun s w fi R E kk =>
  Subscript_ (h s w fi _ E fun v x s₁ w₁ h₁ x₁ ok₁ rv => wpAny_Constant_int (by
    cases v <;> first | exact h₁.elim | skip
    rename_i vs
    obtain ⟨y, hy, hq⟩ := h₁
    obtain ⟨a, items, rfl, ht, hr⟩ := rv
    obtain ⟨z, hz, rz⟩ := hr.get hy
    have hlt : k < items.length := (List.getElem?_eq_some_iff.mp hz).1
    have ok₂ := ok₁.toks (s₁.toks + 1)
    exact item_tupleT (s := { s₁ with toks := s₁.toks + 1 }) (ht.of ok₂) (by omega) (by omega) (seqIndex_nat hlt) hz (kk _ _ _ w₁ hq (x₁.trans (Ext.toks ..)) ok₂ rz)))
structure Cx.RealOk (C : Cx) : Prop where
  plain : ∀ n, plainGet C.K C.RC n = true
  has : hasDictIn C.K C.RC = true
  mant : findIn C.K (.ref C.RC) "mantissa" = some none
  expo : findIn C.K (.ref C.RC) "exponent" = some none
theorem Ok.K {w : View} {s : Shared} (G : C.Good) (ok : Ok C w s) : C.K.In s.heap := G.X.keeps ok.heap₀
theorem RealV.inst {w : View} {s : Shared} (ok : Ok C w s) {m e a} (h : RealV C w m e (.ref a)) : ∃ dx es n, InstAt s.heap a (instObj C.RC dx) C.RC (some (dictOf es n)) ∧ RealDict es m e := by
  obtain ⟨a', dx, es, n, h1, h2, h3, h4⟩ := h
  cases h1
  exact ⟨dx, es, n, ⟨ok.vin _ _ h2, rfl, rfl, ok.vin _ _ h3⟩, h4⟩
noncomputable def FieldQ (f : Int → Int → Int) (Q : V → Prop) : V → Prop
  | .real m e => Q (.int (f m e))
  | _ => False
theorem wp_field (G : C.Good) (RO : C.RealOk) {A : Around} {s : Shared} {w : View} {name : Str} {f : Int → Int → Int} {v : V} {x : Value} {Q : V → Prop} {R E : Value → Shared → Prop} (ok : Ok C w s) (rv : Rep C w v x) (h : FieldQ f Q v)
    (hn : findIn C.K (.ref C.RC) name = some none) (hf : ∀ es m e, RealDict es m e → ∃ t, getL name es = some (some (.int (f m e) t)))
    (k : ∀ v z s' w', Q v → Ext C w s w' s' → Ok C w' s' → Rep C w' v z → R z s') : wpAny (model C.prog C.wd) A (getAttr x name true) R E s := by
  cases v <;> first | exact h.elim | skip
  rename_i m e
  have rv' : RealV C w m e x := rv
  obtain ⟨a, dx, es, n, rfl, _⟩ := id rv'
  obtain ⟨dx', es', n', I, D⟩ := rv'.inst ok
  obtain ⟨t, ht⟩ := hf _ _ _ D
  refine get_value (ok.K G) I (plainGet_of (RO.plain name)).1 (findObj_own RO.has hn rfl ?_) rfl (k _ _ _ w h (Ext.toks ..) (ok.toks _) ⟨t, rfl⟩)
  rw [lookIn_dict]; exact ht
theorem ej_mant (G : C.Good) (RO : C.RealOk) {y xp pos} {Q : V → Prop} (h : EJ F fz ρ (.Name y xp) (FieldQ (fun m _ => m) Q)) : EJ F fz ρ (.Attribute (.Name y xp) (Str.ofString "mantissa") pos) Q := fun s w fi R E k =>
  Attribute_Name_ (h s w fi _ E fun v x s₁ w₁ h₁ x₁ ok₁ rv => wp_field G RO ok₁ rv h₁ RO.mant (fun _ _ _ D => D.1) fun v z s₂ w₂ q x₂ ok₂ rz => k v z s₂ w₂ q (x₁.trans x₂) ok₂ rz)
theorem ej_expo (G : C.Good) (RO : C.RealOk) {y xp pos} {Q : V → Prop} (h : EJ F fz ρ (.Name y xp) (FieldQ (fun _ e => e) Q)) : EJ F fz ρ (.Attribute (.Name y xp) (Str.ofString "exponent") pos) Q := fun s w fi R E k =>
  Attribute_Name_ (h s w fi _ E fun v x s₁ w₁ h₁ x₁ ok₁ rv => wp_field G RO ok₁ rv h₁ RO.expo (fun _ _ _ D => D.2) fun v z s₂ w₂ q x₂ ok₂ rz => k v z s₂ w₂ q (x₁.trans x₂) ok₂ rz)
theorem wp_args {A : Around} {env : Env} {s : Shared} {pos : Pos} {f : Value} {e : Expr} {es : List Expr} {P : Heap → Prop} {Q : Value → Shared → Prop} {E : Value → Shared → Prop} {M : Model}
    (he : starEach (e :: es) env = (false, eval e env) :: starEach es env) (hp : (backTo pos (starEach es env)).any (·.1) = false)
    (hk : ∀ h, P h → ∃ k, (k = Keeper.frame ∨ k = Keeper.machine ∨ k = Keeper.boundFrame) ∧ Looks M h (keeperOf f) k)
    (h : wpAny M A (spliced (backTo pos (starEach (e :: es) env))) (fun vs s₁ => P s₁.heap ∧ wpAny M A (call f vs) Q E s₁) E s) : wpAny M A (callWith pos f [] (backTo pos (starEach (e :: es) env)) []) Q E s := by
  rw [he] at h ⊢
  exact callWith_of (by show ((false || (backTo pos (starEach es env)).any (·.1)) || false) = false; rw [hp]; rfl) hk (evalArgs_plain h)
noncomputable def GCall (C : Cx) (g : Str) : Prop := ∃ a, nsIn C.K mainGlobals g = some (some (.ref a)) ∧ keepIn C.K (.ref a) = true
theorem ej_call (G : C.Good) (i : Nat) {g p pos e es} {Q : V → Prop} (hn : F.env.scope.names[i]? = some (g, NameKind.globalImplicit))
    (he : starEach (e :: es) F.env = (false, eval e F.env) :: starEach es F.env) (hp : (backTo pos (starEach es F.env)).any (·.1) = false) (hg : GCall C g)
    (h : LJ F fz ρ pos (e :: es) fun vs => Spec C F.n g vs Q) : EJ F fz ρ (.Call (.Name g p) (e :: es) [] pos) Q := fun s w fi R E k => by
  obtain ⟨a, e1, e2⟩ := hg
  refine wpAny_Call_Name_kw (load_glob G fi hn e1 ?_)
  refine wp_args he hp (keeps_K e2) (h s w fi _ E fun vs xs s₁ w₁ h₁ x₁ ok₁ rv => ⟨ok₁.K G, ?_⟩)
  obtain ⟨a', e1', _, hc⟩ := h₁
  rw [e1] at e1'; cases e1'
  exact hc F.A s₁ w₁ xs R E F.room ok₁ rv fun v x w₂ s₂ q x₂ ok₂ rz => k v x s₂ w₂ q (x₁.trans x₂) ok₂ rz
noncomputable def BV : Option (Int × Int) → V
  | none => .none
  | some (a, c) => .tup [.int a, .int c]
noncomputable def FnQ (C : Cx) (n : Nat) (vs : List V) (Q : V → Prop) : V → Prop
  | .fn f => fnRoom ≤ n ∧ ∃ k b, vs = [.int k] ∧ f k = some b ∧ Q (BV b)
  | .gl g => GCall C g ∧ Spec C n g vs Q
  | _ => False
theorem BRep.rep {w : View} {b : Option (Int × Int)} {x : Value} (h : BRep w b x) : Rep C w (BV b) x := by
  cases b with
  | none => exact h
  | some p =>
    obtain ⟨a, c⟩ := p
    obtain ⟨ad, t, u, rfl, ht⟩ := h
    exact ⟨ad, _, rfl, ht, _, _, rfl, ⟨t, rfl⟩, _, _, rfl, ⟨u, rfl⟩, rfl⟩
theorem ej_callv (G : C.Good) {g p pos e es} {Q : V → Prop}
    (he : starEach (e :: es) F.env = (false, eval e F.env) :: starEach es F.env) (hp : (backTo pos (starEach es F.env)).any (·.1) = false)
    (h : EJ F fz ρ (.Name g p) fun f => LJ F fz ρ pos (e :: es) fun vs => FnQ C F.n vs Q f) : EJ F fz ρ (.Call (.Name g p) (e :: es) [] pos) Q := fun s w fi R E k =>
  wpAny_Call_Name_kw (h s w fi _ E fun f xf s₀ w₀ h₀ x₀ ok₀ rf => by
    have fi₀ := fi.ext x₀ ok₀
    cases f with
    | fn f =>
      obtain ⟨⟨a, o, fd, rfl, ha, hd⟩, hc⟩ := id rf
      refine wp_args (P := FnAt a) he hp keeps_F (h₀ s₀ w₀ fi₀ _ E fun vs xs s₁ w₁ h₁ x₁ ok₁ rv => ⟨?_, ?_⟩)
      · have e1 := ok₁.vin _ _ (x₁.vle _ _ ha)
        obtain ⟨oc, od, odd, osl⟩ := o
        dsimp only at hd; subst hd
        exact ⟨oc, od, fd, osl, e1⟩
      · obtain ⟨hroom, i, b, rfl, hf, hq⟩ := h₁
        obtain ⟨x, ys, rfl, ⟨t, rfl⟩, hys⟩ := rv
        obtain rfl : ys = [] := hys
        exact hc i t b hf F.A s₁ w₁ R E (F.room.le hroom) x₁.vle ok₁ fun s₂ w₂ y x₂ ok₂ hb => k _ _ s₂ w₂ hq (x₀.trans (x₁.trans x₂)) ok₂ hb.rep
    | gl y =>
      have hy' : nsIn C.K mainGlobals y = some (some xf) := rf
      by_cases hex : GCall C y
      · obtain ⟨a, e1, e2⟩ := hex
        rw [e1] at hy'; cases hy'
        refine wp_args he hp (keeps_K e2) (h₀ s₀ w₀ fi₀ _ E fun vs xs s₁ w₁ h₁ x₁ ok₁ rv => ⟨ok₁.K G, ?_⟩)
        obtain ⟨_, a', e1', _, hc⟩ := h₁
        rw [e1] at e1'; cases e1'
        exact hc F.A s₁ w₁ xs R E F.room ok₁ rv fun v x w₂ s₂ q x₂ ok₂ rz => k v x s₂ w₂ q (x₀.trans (x₁.trans x₂)) ok₂ rz
      · exact wp_args (P := fun _ => False) he hp (fun _ hh => hh.elim) (h₀ s₀ w₀ fi₀ _ E fun vs xs s₁ w₁ h₁ x₁ ok₁ rv => absurd h₁.1 hex)
    | _ => exact wp_args (P := fun _ => False) he hp (fun _ hh => hh.elim) (h₀ s₀ w₀ fi₀ _ E fun vs xs s₁ w₁ h₁ x₁ ok₁ rv => h₁.elim))
theorem keeps_builtin {M : Model} {id : String} (h : Heap) (_ : True) : ∃ k, (k = Keeper.frame ∨ k = Keeper.machine ∨ k = Keeper.boundFrame) ∧ Looks M h (keeperOf (.builtin id)) k :=
  ⟨.machine, .inr (.inl rfl), Looks.of_pure rfl⟩
noncomputable def BCall (C : Cx) (id : String) (vs : List V) (Q : V → Prop) : Prop :=
  ∀ (A : Around) (s : Shared) (w : View) (xs : List Value) (R E : Value → Shared → Prop), A.handled = none → Ok C w s → Reps C w vs xs →
    (∀ v x w' s', Q v → Ext C w s w' s' → Ok C w' s' → Rep C w' v x → R x s') → wpAny (model C.prog C.wd) A (call (.builtin id) xs) R E s
theorem ej_bcall (G : C.Good) (i : Nat) (id : String) {g p pos e es} {Q : V → Prop} (hn : F.env.scope.names[i]? = some (g, NameKind.globalImplicit))
    (hb : bootBuiltins g = some (.builtin id)) (hne : g ≠ "__name__") (hg : nsIn C.K mainGlobals g = some none)
    (he : starEach (e :: es) F.env = (false, eval e F.env) :: starEach es F.env) (hp : (backTo pos (starEach es F.env)).any (·.1) = false)
    (h : LJ F fz ρ pos (e :: es) fun vs => BCall C id vs Q) : EJ F fz ρ (.Call (.Name g p) (e :: es) [] pos) Q := fun s w fi R E k => by
  refine wpAny_Call_Name_kw (load_bltn G fi hn hg hb hne ?_)
  refine wp_args he hp keeps_builtin (h s w fi _ E fun vs xs s₁ w₁ h₁ x₁ ok₁ rv => ⟨trivial, ?_⟩)
  exact h₁ F.A s₁ w₁ xs R E F.room.hand ok₁ rv fun v x w₂ s₂ q x₂ ok₂ rz => k v x s₂ w₂ q (x₁.trans x₂) ok₂ rz
theorem bc_abs {a : Int} {Q : V → Prop} (h : Q (.int (a.natAbs : Int))) : BCall C "abs" [.int a] Q := fun A s w xs R E hh ok rv k => by
  obtain ⟨x, ys, rfl, ⟨t, rfl⟩, rfl⟩ := rv
  refine call_abs_int fun u tk => ?_
  have : (if a < 0 then -a else a) = (a.natAbs : Int) := by split <;> omega
  rw [this]
  exact k _ _ w _ h (Ext.toks ..) (ok.toks _) ⟨_, rfl⟩
theorem bc_max2 {a b : Int} {Q : V → Prop} (h : Q (.int (max a b))) : BCall C "max" [.int a, .int b] Q := fun A s w xs R E hh ok rv k => by
  obtain ⟨x, ys, rfl, ⟨t, rfl⟩, y, zs, rfl, ⟨u, rfl⟩, rfl⟩ := rv
  refine max_two_ints hh fun h' tk hk => ?_
  refine k _ _ w _ h (Ext.of_keep hk) (ok.keep hk) ?_
  split
  · exact ⟨u, by rw [show max a b = b by omega]⟩
  · exact ⟨t, by rw [show max a b = a by omega]⟩
theorem bc_min2 {a b : Int} {Q : V → Prop} (h : Q (.int (min a b))) : BCall C "min" [.int a, .int b] Q := fun A s w xs R E hh ok rv k => by
  obtain ⟨x, ys, rfl, ⟨t, rfl⟩, y, zs, rfl, ⟨u, rfl⟩, rfl⟩ := rv
  refine min_two_ints hh fun h' tk hk => ?_
  refine k _ _ w _ h (Ext.of_keep hk) (ok.keep hk) ?_
  split
  · exact ⟨u, by rw [show min a b = b by omega]⟩
  · exact ⟨t, by rw [show min a b = a by omega]⟩
theorem bc_divmod {a b : Int} {Q : V → Prop} (hb : b ≠ 0) (hs : Sm b) (h : Q (.tup [.int (a.fdiv b), .int (a.fmod b)])) : BCall C "divmod" [.int a, .int b] Q := fun A s w xs R E hh ok rv k => by
  obtain ⟨x, ys, rfl, ⟨t, rfl⟩, y, zs, rfl, ⟨u, rfl⟩, rfl⟩ := rv
  refine divmod_int hb ?_ (Or.inl (PyProof.noPylong_of_log2 (Nat.lt_trans hs.log2 (by decide))))
  exact k _ _ _ _ h (Ext.alloc ok (tupObj [.int (a.fdiv b) s.toks, .int (a.fmod b) (s.toks + 1)]) _) (ok.alloc rfl _) ⟨_, _, rfl, tupV_put .., _, _, rfl, ⟨_, rfl⟩, _, _, rfl, ⟨_, rfl⟩, rfl⟩
theorem ej_bits {o apos pos} {pl : Sem Bool} {Q : V → Prop} (h : EJ F fz ρ o fun v => match v with | .int a => Q (.int (Builtin.Int.intBits a : Nat)) | _ => False)
    (he : eval (.Call (.Attribute o (Str.ofString "bit_length") apos) [] [] pos) F.env = (do
      let ov ← eval o F.env
      standAt apos.atName
      let (f, first) ← holding [ov] (getMethod ov (Str.ofString "bit_length") pl)
      callWith pos f first (backTo pos (starEach [] F.env)) [])) : EJ F fz ρ (.Call (.Attribute o (Str.ofString "bit_length") apos) [] [] pos) Q := fun s w fi R E k =>
  MethodCall_ (pl := pl) (h s w fi _ E fun v x s₁ w₁ h₁ x₁ ok₁ rv => by
    cases v <;> first | exact h₁.elim | skip
    rename_i a
    obtain ⟨t, rfl⟩ := rv
    refine getMethod_int_bit_length ?_
    refine callWith_of (P := fun _ => True) rfl keeps_builtin (evalArgs_nil3 ⟨trivial, ?_⟩)
    exact call_int_bit_length (k _ _ _ w₁ h₁ (x₁.trans (Ext.toks ..)) (ok₁.toks _) ⟨_, rfl⟩)) he
theorem bq_add {a b : Int} {Q : V → Prop} (h : Q (.int (a + b))) : BinQ Q .Add (.int a) (.int b) := .add h
theorem bq_sub {a b : Int} {Q : V → Prop} (h : Q (.int (a - b))) : BinQ Q .Sub (.int a) (.int b) := .sub h
theorem bq_mul {a b : Int} {Q : V → Prop} (ha : Sm a) (hb : Sm b) (h : Q (.int (a * b))) : BinQ Q .Mult (.int a) (.int b) := .mul ha hb h
theorem bq_div {a b : Int} {Q : V → Prop} (hb : b ≠ 0) (hs : Sm b) (h : Q (.int (a.fdiv b))) : BinQ Q .FloorDiv (.int a) (.int b) := .div hb hs h
theorem bq_mod {a b : Int} {Q : V → Prop} (hb : b ≠ 0) (h : Q (.int (a.fmod b))) : BinQ Q .Mod (.int a) (.int b) := .mod hb h
theorem bq_shl {a n : Int} {Q : V → Prop} (ha : Sm a) (h0 : 0 ≤ n) (h1 : n ≤ 100000) (h : Q (.int (a * 2 ^ n.toNat))) : BinQ Q .LShift (.int a) (.int n) := .shl ha h0 h1 h
theorem bq_shr {a n : Int} {Q : V → Prop} (h0 : 0 ≤ n) (h : Q (.int (a.fdiv (2 ^ n.toNat)))) : BinQ Q .RShift (.int a) (.int n) := .shr h0 h
theorem bool_q {b : Bool} {Q : Bool → Prop} (h : Q b) : BoolQ Q (.bool b) := h
theorem item_q {k : Nat} {vs : List V} {v : V} {Q : V → Prop} (hk : vs[k]? = some v) (h : Q v) : ItemQ k Q (.tup vs) := ⟨v, hk, h⟩
theorem ej_item' {value kk kd p pos} (k : Nat) {Q : V → Prop} (he : kk = (k : Int)) (hk : k < 100) (h : EJ F fz ρ value (ItemQ k Q)) : EJ F fz ρ (.Subscript value (.Constant (.int kk) kd p) pos) Q := by
  subst he; exact ej_item h hk
end
end Mine
end
section
namespace Mine
section
variable {C : Cx}
noncomputable def maxL (a : Int) (l : List Int) : Int := l.foldl max a
noncomputable def minL (a : Int) (l : List Int) : Int := l.foldl min a
theorem maxL_ge : ∀ (l : List Int) (a : Int), a ≤ maxL a l ∧ ∀ x ∈ l, x ≤ maxL a l
  | [], a => ⟨Int.le_refl _, fun x h => nomatch h⟩
  | y :: r, a => by
    obtain ⟨h1, h2⟩ := maxL_ge r (max a y)
    have e : maxL a (y :: r) = maxL (max a y) r := rfl
    rw [e]
    refine ⟨by omega, fun x hx => ?_⟩
    rcases List.mem_cons.mp hx with rfl | hx
    · omega
    · exact h2 x hx
theorem maxL_mem : ∀ (l : List Int) (a : Int), maxL a l ∈ a :: l
  | [], a => List.mem_cons_self ..
  | y :: r, a => by
    have e : maxL a (y :: r) = maxL (max a y) r := rfl
    rw [e]
    rcases List.mem_cons.mp (maxL_mem r (max a y)) with h | h
    · rw [h]
      rcases Int.le_total a y with q | q
      · rw [Int.max_eq_right q]; simp
      · rw [Int.max_eq_left q]; simp
    · exact List.mem_cons_of_mem _ (List.mem_cons_of_mem _ h)
theorem minL_le : ∀ (l : List Int) (a : Int), minL a l ≤ a ∧ ∀ x ∈ l, minL a l ≤ x
  | [], a => ⟨Int.le_refl _, fun x h => nomatch h⟩
  | y :: r, a => by
    obtain ⟨h1, h2⟩ := minL_le r (min a y)
    have e : minL a (y :: r) = minL (min a y) r := rfl
    rw [e]
    refine ⟨by omega, fun x hx => ?_⟩
    rcases List.mem_cons.mp hx with rfl | hx
    · omega
    · exact h2 x hx
theorem minL_mem : ∀ (l : List Int) (a : Int), minL a l ∈ a :: l
  | [], a => List.mem_cons_self ..
  | y :: r, a => by
    have e : minL a (y :: r) = minL (min a y) r := rfl
    rw [e]
    rcases List.mem_cons.mp (minL_mem r (min a y)) with h | h
    · rw [h]
      rcases Int.le_total a y with q | q
      · rw [Int.min_eq_left q]; simp
      · rw [Int.min_eq_right q]; simp
    · exact List.mem_cons_of_mem _ (List.mem_cons_of_mem _ h)
theorem Reps.ints {w : View} : ∀ {l : List Int} {xs : List Value}, Reps C w (l.map V.int) xs → ∃ ps : List (Int × Tok), xs = ps.map (fun p => Value.int p.1 p.2) ∧ ps.map (·.1) = l
  | [], _, h => ⟨[], h, rfl⟩
  | i :: l, _, h => by
    obtain ⟨x, ys, rfl, ⟨t, rfl⟩, b⟩ := h
    obtain ⟨ps, rfl, e⟩ := Reps.ints b
    exact ⟨(i, t) :: ps, rfl, by rw [List.map_cons, e]⟩
theorem intItems_list (ps : List (Int × Tok)) : intItems ps.toArray = (ps.map fun p => Value.int p.1 p.2).toArray := by simp [intItems]
theorem max_at {ps : List (Int × Tok)} {a : Int} {l : List Int} {v : Value} (e : ps.map (·.1) = a :: l)
    (h : (intItems ps.toArray)[argBest (fun i j => decide (numAt ps.toArray i > numAt ps.toArray j)) (ps.toArray.size - 1)]? = some v) : ∃ t, v = .int (maxL a l) t := by
  obtain ⟨t, rfl⟩ := intItems_at h
  obtain ⟨h1, h2⟩ := argBest_gt (numAt ps.toArray) (ps.toArray.size - 1)
  have hlen : ps.length = l.length + 1 := by have := congrArg List.length e; simpa using this
  have hnum : ∀ j, numAt ps.toArray j = (a :: l).getD j 0 := fun j => by
    rw [← e]; unfold numAt; simp only [List.getElem?_toArray, List.getD_eq_getElem?_getD, List.getElem?_map]
  refine ⟨t, ?_⟩
  congr 1
  refine Int.le_antisymm ?_ ?_
  · have hm : numAt ps.toArray (argBest (fun i j => decide (numAt ps.toArray i > numAt ps.toArray j)) (ps.toArray.size - 1)) ∈ a :: l := by
      rw [hnum, List.getD_eq_getElem?_getD]
      have hlt : argBest (fun i j => decide (numAt ps.toArray i > numAt ps.toArray j)) (ps.toArray.size - 1) < (a :: l).length := by
        simp only [List.size_toArray, List.length_cons] at h1 ⊢; omega
      rw [List.getElem?_eq_getElem hlt, Option.getD_some]
      exact List.getElem_mem hlt
    rcases List.mem_cons.mp hm with q | q
    · rw [q]; exact (maxL_ge l a).1
    · exact (maxL_ge l a).2 _ q
  · obtain ⟨j, hj, ej⟩ := List.getElem_of_mem (maxL_mem l a)
    have := h2 j (by simp only [List.size_toArray]; simp only [List.length_cons] at hj; omega)
    rw [hnum j, List.getD_eq_getElem?_getD, List.getElem?_eq_getElem hj, Option.getD_some, ej] at this
    exact this
theorem min_at {ps : List (Int × Tok)} {a : Int} {l : List Int} {v : Value} (e : ps.map (·.1) = a :: l)
    (h : (intItems ps.toArray)[argBest (fun i j => decide (numAt ps.toArray i < numAt ps.toArray j)) (ps.toArray.size - 1)]? = some v) : ∃ t, v = .int (minL a l) t := by
  obtain ⟨t, rfl⟩ := intItems_at h
  obtain ⟨h1, h2⟩ := argBest_lt (numAt ps.toArray) (ps.toArray.size - 1)
  have hlen : ps.length = l.length + 1 := by have := congrArg List.length e; simpa using this
  have hnum : ∀ j, numAt ps.toArray j = (a :: l).getD j 0 := fun j => by
    rw [← e]; unfold numAt; simp only [List.getElem?_toArray, List.getD_eq_getElem?_getD, List.getElem?_map]
  refine ⟨t, ?_⟩
  congr 1
  refine Int.le_antisymm ?_ ?_
  · obtain ⟨j, hj, ej⟩ := List.getElem_of_mem (minL_mem l a)
    have := h2 j (by simp only [List.size_toArray]; simp only [List.length_cons] at hj; omega)
    rw [hnum j, List.getD_eq_getElem?_getD, List.getElem?_eq_getElem hj, Option.getD_some, ej] at this
    exact this
  · have hm : numAt ps.toArray (argBest (fun i j => decide (numAt ps.toArray i < numAt ps.toArray j)) (ps.toArray.size - 1)) ∈ a :: l := by
      rw [hnum, List.getD_eq_getElem?_getD]
      have hlt : argBest (fun i j => decide (numAt ps.toArray i < numAt ps.toArray j)) (ps.toArray.size - 1) < (a :: l).length := by
        simp only [List.size_toArray, List.length_cons] at h1 ⊢; omega
      rw [List.getElem?_eq_getElem hlt, Option.getD_some]
      exact List.getElem_mem hlt
    rcases List.mem_cons.mp hm with q | q
    · rw [q]; exact (minL_le l a).1
    · exact (minL_le l a).2 _ q
theorem bc_maxL {a : Int} {l : List Int} {Q : V → Prop} (h : Q (.int (maxL a l))) : BCall C "max" [.lst ((a :: l).map V.int)] Q := fun A s w xs R E hh ok rv k => by
  obtain ⟨x, ys, rfl, ⟨ad, items, rfl, hl, hr⟩, rfl⟩ := rv
  obtain ⟨ps, rfl, e⟩ := hr.ints
  refine max_intList (xs := ps.toArray) hh (by rw [intItems_list]; exact hl.of ok) (by have := congrArg List.length e; simp at this; simp; omega) fun v h' tk hv hk => ?_
  obtain ⟨t, rfl⟩ := max_at e hv
  exact k _ _ w _ h (Ext.of_keep hk) (ok.keep hk) ⟨t, rfl⟩
theorem bc_minL {a : Int} {l : List Int} {Q : V → Prop} (h : Q (.int (minL a l))) : BCall C "min" [.lst ((a :: l).map V.int)] Q := fun A s w xs R E hh ok rv k => by
  obtain ⟨x, ys, rfl, ⟨ad, items, rfl, hl, hr⟩, rfl⟩ := rv
  obtain ⟨ps, rfl, e⟩ := hr.ints
  refine min_intList (xs := ps.toArray) hh (by rw [intItems_list]; exact hl.of ok) (by have := congrArg List.length e; simp at this; simp; omega) fun v h' tk hv hk => ?_
  obtain ⟨t, rfl⟩ := min_at e hv
  exact k _ _ w _ h (Ext.of_keep hk) (ok.keep hk) ⟨t, rfl⟩
theorem tup_walk {A : Around} {s : Shared} {ad : Addr} {ps : List (Int × Tok)} {Q : Value → Shared → Prop} {E : Value → Shared → Prop}
    (ht : s.heap.IsTuple ad (intItems ps.toArray))
    (h : ∀ s₂ : Shared, s₂ = { s with heap := s.heap.push { cls := .type "tuple_iterator", data := .fields #[.ref ad, .int 0 0] } } →
      (s₂.heap.IsTupleIter s.heap.objs.size ad 0 ∧ s₂.heap.IsTuple ad (intItems ps.toArray)) → (∀ b ∈ [s.heap.objs.size, ad], b < s₂.heap.objs.size) → ad ≠ s.heap.objs.size → Q (.ref s.heap.objs.size) s₂) :
    wpAny (model C.prog C.wd) A (pyIter (.ref ad)) Q E s := by
  have hlt : ad < s.heap.objs.size := by obtain ⟨_, e, _⟩ := ht; exact Heap.lt_size e
  refine wpAny_pyIter_tuple ht (h _ rfl ⟨⟨_, Heap.get?_push_size _ rfl, rfl, rfl⟩, ht.push _⟩ (fun b hb => ?_) (Nat.ne_of_lt hlt))
  show b < (s.heap.push _).objs.size
  rw [Heap.size_push]
  rcases List.mem_cons.mp hb with rfl | hb
  · exact Nat.lt_succ_self _
  · rcases List.mem_cons.mp hb with rfl | hb
    · exact Nat.lt_succ_of_lt hlt
    · cases hb
theorem old_keptT {s : Shared} {ad : Addr} {h' : Heap} (hk : ∀ b o, b ∉ [s.heap.objs.size] → (s.heap.push { cls := .type "tuple_iterator", data := .fields #[.ref ad, .int 0 0] }).get? b = some o → h'.get? b = some o) :
    ∀ b o, s.heap.get? b = some o → h'.get? b = some o := fun b o e => by
  refine hk b o (fun hm => ?_) (Heap.get?_push_of_some _ e)
  rcases List.mem_cons.mp hm with e1 | hm
  · exact absurd (e1 ▸ Heap.lt_size e) (Nat.lt_irrefl _)
  · cases hm
theorem bc_maxT {a : Int} {l : List Int} {Q : V → Prop} (h : Q (.int (maxL a l))) : BCall C "max" [.tup ((a :: l).map V.int)] Q := fun A s w xs R E hh ok rv k => by
  obtain ⟨x, ys, rfl, ⟨ad, items, rfl, hl, hr⟩, rfl⟩ := rv
  obtain ⟨ps, rfl, e⟩ := hr.ints
  refine call_max_walk (tup_walk (ps := ps) (by rw [intItems_list]; exact hl.of' ok) fun s₂ es st hfp hne => ?_)
  subst es
  refine ⟨_, _, _, _, _, _, _, rfl, Walks.tuple (A := A.in1) hh _ ad hne (intItems ps.toArray), st, hfp, by have := congrArg List.length e; simp at this; simp [intItems]; omega, CmpOf.ints_gt (numAt ps.toArray) (fun _ _ => intItems_at), fun v h' tk hP hk => ?_⟩
  obtain ⟨t, rfl⟩ := max_at e (by simpa [intItems] using hP)
  exact k _ _ w _ h (Ext.of_keep (old_keptT hk)) (ok.keep (old_keptT hk)) ⟨t, rfl⟩
theorem bc_minT {a : Int} {l : List Int} {Q : V → Prop} (h : Q (.int (minL a l))) : BCall C "min" [.tup ((a :: l).map V.int)] Q := fun A s w xs R E hh ok rv k => by
  obtain ⟨x, ys, rfl, ⟨ad, items, rfl, hl, hr⟩, rfl⟩ := rv
  obtain ⟨ps, rfl, e⟩ := hr.ints
  refine call_min_walk (tup_walk (ps := ps) (by rw [intItems_list]; exact hl.of' ok) fun s₂ es st hfp hne => ?_)
  subst es
  refine ⟨_, _, _, _, _, _, _, rfl, Walks.tuple (A := A.in1) hh _ ad hne (intItems ps.toArray), st, hfp, by have := congrArg List.length e; simp at this; simp [intItems]; omega, CmpOf.ints_lt (numAt ps.toArray) (fun _ _ => intItems_at), fun v h' tk hP hk => ?_⟩
  obtain ⟨t, rfl⟩ := min_at e (by simpa [intItems] using hP)
  exact k _ _ w _ h (Ext.of_keep (old_keptT hk)) (ok.keep (old_keptT hk)) ⟨t, rfl⟩
end
end Mine
end
section
namespace Mine
section
variable {C : Cx} {F : Fc C} {fz : Bool} {ρ : List V}
theorem Ok.other {w : View} {s : Shared} {a : Addr} {h' : Heap} {tk : Nat} (x : Ok C w s) (ha : w a = none) (hn : NT C a) (hs : Heap.SameBut a s.heap h')
    (hc : ∀ o vs, h'.get? a = some o → o.data ≠ .fields vs → True) (hnf : ∀ o, s.heap.get? a = some o → NotCode o) : Ok C w { s with heap := h', toks := tk } := by
  have k : ∀ b o, b ≠ a → s.heap.get? b = some o → h'.get? b = some o := fun b o hb e => (hs.2 b hb).trans e
  refine ⟨fun b o e => k b o (fun q => by rw [q, ha] at e; cases e) (x.vin b o e), x.top, fun t ht => ?_, x.hid⟩
  obtain ⟨ps, e, h1, h2⟩ := x.tabs t ht
  refine ⟨ps, k _ _ (Ne.symm (hn t ht)) e, h1, fun pos cv q => ?_⟩
  obtain ⟨c, o, vs, t', e1, e2, e3, e4⟩ := h2 pos cv q
  exact ⟨c, o, vs, t', e1, k _ _ (fun q' => by subst q'; exact hnf o e2 vs _ _ e3 e4) e2, e3, e4⟩
theorem get_set_ne {α : Type} {l : List α} {i j : Nat} {v : α} (h : i ≠ j) : (l.set i v)[j]? = l[j]? := by
  rw [List.getElem?_set]; simp [h]
theorem get_set_self {α : Type} {l : List α} {i : Nat} {v u : α} (h : (l.set i v)[i]? = some u) : u = v := by
  rw [List.getElem?_set] at h
  simp at h
  exact h.2.symm
theorem idx_inj {F : Fc C} {i j : Nat} {x : Str} {k k' : NameKind} (h : F.env.scope.names[i]? = some (x, k)) (h' : F.env.scope.names[j]? = some (x, k')) : i = j := by
  have hi : (F.env.scope.names.map (·.1))[i]? = some x := by rw [List.getElem?_map, h]; rfl
  have hj : (F.env.scope.names.map (·.1))[j]? = some x := by rw [List.getElem?_map, h']; rfl
  have li := (List.getElem?_eq_some_iff.mp hi).1
  exact (List.getElem?_inj li F.nodup).mp (hi.trans hj.symm)
noncomputable def KeepD (s s' : Shared) : Prop := ∀ b o, (∀ v, o.data ≠ .cell v) → (∀ es ep, o.data ≠ .dict es ep) → s.heap.get? b = some o → s'.heap.get? b = some o
theorem KeepD.refl (s : Shared) : KeepD s s := fun _ _ _ _ e => e
theorem KeepD.trans {s s' s'' : Shared} (x : KeepD s s') (y : KeepD s' s'') : KeepD s s'' := fun b o h1 h2 e => y b o h1 h2 (x b o h1 h2 e)
theorem KeepD.of {s : Shared} {h' : Heap} {tk : Nat} (k : ∀ b o, s.heap.get? b = some o → h'.get? b = some o) : KeepD s { s with heap := h', toks := tk } := fun b o _ _ e => k b o e
noncomputable def Storable (F : Fc C) (fz : Bool) (x : Str) (k : NameKind) : Prop := k = .local ∨ (k = .cell ∧ fz = false ∧ (F.env.cells.lookup x).isSome = true)
theorem fi_store {s : Shared} {w : View} (fi : FI F fz ρ s w) (i : Nat) {x : Str} {k : NameKind} {v : V} {y : Value} (hn : F.env.scope.names[i]? = some (x, k)) (hk : Storable F fz x k) (rv : Rep C w v y)
    {R : Unit → Shared → Prop} {E : Value → Shared → Prop} (h : ∀ s', FI F fz (ρ.set i v) s' w → KeepD s s' → R () s') : wpAny (model C.prog C.wd) F.A (storeName F.env x y) R E s := by
  obtain ⟨m, hns, hm⟩ := fi.ns
  rcases hk with rfl | ⟨rfl, rfl, hc⟩
  · refine wpAny_storeName_local (F.kindOf hn) hns (fun h' hn' hs => h _ ?_ (fun b o h1 h2 e => (hs.2 b (fun q => by
      obtain ⟨o', es, ep, e', hd', _⟩ := hns
      rw [q, e'] at e; cases e; exact h2 _ _ hd')).trans e)) (by rw [F.kind]; rfl)
    have hL := fi.ok.nt_ns hns
    have ok' : Ok C w { s with heap := h', toks := s.toks + 1 } := fi.ok.other fi.hidL hL hs (fun _ _ _ _ => trivial) (fun o e vs _ _ hd => by
      obtain ⟨o', es, ep, e', hd', _⟩ := hns
      rw [e] at e'; cases e'; rw [hd] at hd'; cases hd')
    refine ⟨?_, fun b o hb e => (hs.2 b fun q => by rw [q, fi.fresh] at e; cases e).trans (fi.keep b o hb e), fi.vle, fi.old, ok', fi.fresh, fi.hidL, ⟨_, hn', fun j z u a b c => ?_⟩, fun j z k' c u a b d e f => ?_, fun z c a b => ?_, fi.apart⟩
    · obtain ⟨h1, tk, rfl⟩ := fi.same; exact ⟨_, _, rfl⟩
    · by_cases hij : i = j
      · subst hij
        rw [hn] at a; cases a
        obtain rfl := get_set_self b
        exact ⟨y, if_pos rfl, rv⟩
      · rw [get_set_ne hij] at b
        have hz : z ≠ x := fun q => hij (idx_inj hn (q ▸ a))
        obtain ⟨y', e1, e2⟩ := hm j z u a b c
        exact ⟨y', by rw [if_neg hz]; exact e1, e2⟩
    · have hij : i ≠ j := fun q => by subst q; rw [hn] at a; cases a; rcases b with b | b <;> cases b
      rw [get_set_ne hij] at e
      obtain ⟨y', e1, e2⟩ := fi.cells j z k' c u a b d e f
      exact ⟨y', IsCell.keep e1 fun o g => (hs.2 c (Cell_ne_ns e1 hns)).trans g, e2⟩
    · obtain ⟨h1, ⟨o, h2⟩, h3⟩ := fi.ownC z c a b
      exact ⟨h1, ⟨o, IsCell.keep h2 fun o g => (hs.2 c (Cell_ne_ns h2 hns)).trans g⟩, h3⟩
  · obtain ⟨c, hc⟩ := Option.isSome_iff_exists.mp hc
    obtain ⟨hf, ⟨o₀, hcell⟩, hhid⟩ := fi.ownC x c (F.kindOf hn) hc
    refine wpAny_storeName_cell F.kind (F.kindOf hn) hc hcell fun h' hc' hs => h _ ?_ (fun b o h1 h2 e => (hs.2 b (fun q => by
      obtain ⟨o', e', hd'⟩ := hcell
      rw [q, e'] at e; cases e; exact h1 _ hd')).trans e)
    have hL := fi.ok.nt_cell hcell
    have ok' : Ok C w { s with heap := h' } := fi.ok.other (tk := s.toks) (hhid.1 rfl) hL hs (fun _ _ _ _ => trivial) (fun o e vs _ _ hd => by
      obtain ⟨o', e', hd'⟩ := hcell
      rw [e] at e'; cases e'; rw [hd] at hd'; cases hd')
    refine ⟨?_, fun b o hb e => (hs.2 b fun q => by rw [q, hf] at e; cases e).trans (fi.keep b o hb e), fi.vle, fi.old, ok', fi.fresh, fi.hidL, ⟨m, ?_, fun j z u a b d => ?_⟩, fun j z k' c' u a b d e f => ?_, fun z c' a b => ?_, fi.apart⟩
    · obtain ⟨h1, tk, rfl⟩ := fi.same; exact ⟨_, _, rfl⟩
    · exact hns.sameBut hs (Ne.symm (Cell_ne_ns hcell hns))
    · have hij : i ≠ j := fun q => by subst q; rw [hn] at a; cases a
      rw [get_set_ne hij] at b
      exact hm j z u a b d
    · by_cases hij : i = j
      · subst hij
        rw [hn] at a; cases a
        obtain rfl := get_set_self e
        rw [hc] at d; cases d
        exact ⟨y, hc', rv⟩
      · rw [get_set_ne hij] at e
        obtain ⟨y', e1, e2⟩ := fi.cells j z k' c' u a b d e f
        have hcc : c' ≠ c := fun q => hij (idx_inj hn (fi.apart z x c (q ▸ d) hc ▸ a))
        exact ⟨y', IsCell.keep e1 fun o g => (hs.2 c' hcc).trans g, e2⟩
    · obtain ⟨h1, ⟨o, h2⟩, h3⟩ := fi.ownC z c' a b
      refine ⟨h1, ?_, h3⟩
      by_cases hcc : c' = c
      · subst hcc; exact ⟨_, hc'⟩
      · exact ⟨o, IsCell.keep h2 fun o g => (hs.2 c' hcc).trans g⟩
theorem sj_nil {N P} (h : N fz ρ) : SJ F fz ρ [] N P := fun s w fi R E kn kr => wpAny_execs_nil (kn _ _ s w h fi)
theorem sj_cons {st sts N P} (h : S1 F fz ρ st (fun fz' ρ' => SJ F fz' ρ' sts N P) P) : SJ F fz ρ (st :: sts) N P := fun s w fi R E kn kr =>
  wpAny_execs_cons (h s w fi _ E (fun fz' ρ' s' w' hn fi' => hn s' w' fi' R E kn kr) fun v x fz' ρ' s' w' hp fi' rv => kr v x fz' ρ' s' w' hp fi' rv)
theorem s1_assign (i : Nat) {x p value pos k N P} (hn : F.env.scope.names[i]? = some (x, k)) (hk : Storable F fz x k) (hs : swapsWith value (some (.Name x p)) pos.line F.env = pure false)
    (h : EJ F fz ρ value fun v => N fz (ρ.set i v)) : S1 F fz ρ (.Assign [.Name x p] value pos) N P := fun s w fi R E kn kr =>
  wpAny_Assign_Name (h s w fi _ E fun v y s₁ w₁ h₁ x₁ ok₁ rv => fi_store (fi.ext x₁ ok₁) i hn hk rv fun s' fi' _ => kn _ _ s' w₁ h₁ fi') hs
theorem s1_assign2 (i j : Nat) {x x' p p' value pos k k' N P} (hn : F.env.scope.names[i]? = some (x, k)) (hk : Storable F fz x k) (hn' : F.env.scope.names[j]? = some (x', k')) (hk' : Storable F fz x' k')
    (hw : swappedStores [.Name x p, .Name x' p'] value F.env = pure none)
    (h : EJ F fz ρ value fun v => N fz ((ρ.set i v).set j v)) : S1 F fz ρ (.Assign [.Name x p, .Name x' p'] value pos) N P := fun s w fi R E kn kr =>
  wpAny_Assign_two (h s w fi _ E fun v y s₁ w₁ h₁ x₁ ok₁ rv => wpAny_assign_Name (fi_store (fi.ext x₁ ok₁) i hn hk rv fun s' fi' _ =>
    wpAny_assign_Name (fi_store fi' j hn' hk' rv fun s'' fi'' _ => kn _ _ s'' w₁ h₁ fi''))) rfl hw
theorem s1_if {t b o pos N P} (h : TJ F fz ρ t fun c => if c = true then SJ F fz ρ b N P else SJ F fz ρ o N P) : S1 F fz ρ (.If t b o pos) N P := fun s w fi R E kn kr =>
  wpAny_If (h s w fi _ E fun c s₁ w₁ hc x₁ ok₁ => by cases c <;> exact hc s₁ w₁ (fi.ext x₁ ok₁) R E kn kr)
theorem s1_ret {e pos N P} (h : EJ F fz ρ e P) : S1 F fz ρ (.Return (some e) pos) N P := fun s w fi R E kn kr =>
  wpAny_Return_some (h s w fi _ E fun v x s₁ w₁ h₁ x₁ ok₁ rv => kr v x _ _ s₁ w₁ h₁ (fi.ext x₁ ok₁) rv)
noncomputable def NoneQ (Q : Prop) : V → Prop
  | .none => Q
  | _ => False
theorem s1_expr {e pos N P} (h : EJ F fz ρ e (NoneQ (N fz ρ))) (hi : interactive F.env = false) (hs : swapsWith e none pos.line F.env = pure false) : S1 F fz ρ (.Expr e pos) N P := fun s w fi R E kn kr =>
  wpAny_Expr (h s w fi _ E fun v x s₁ w₁ h₁ x₁ ok₁ rv => by
    cases v <;> first | exact h₁.elim | skip
    obtain rfl := rv
    exact kn _ _ s₁ w₁ h₁ (fi.ext x₁ ok₁)) hi hs
theorem s1_while {t body pos N P} (I : Nat → List V → Prop) (n : Nat) (h₀ : I n ρ)
    (turn : ∀ k ρ', I k ρ' → TJ F fz ρ' t fun c => if c = true then SJ F fz ρ' body (fun fz' ρ'' => fz' = fz ∧ ∃ j, j < k ∧ I j ρ'') P else N fz ρ') : S1 F fz ρ (.While t body [] pos) N P := fun s w fi R E kn kr => by
  refine wpAny_While (codeAny_whileLoop (fun k s' => ∃ ρ' w', I k ρ' ∧ FI F fz ρ' s' w') (fun k s' hI => ?_) n ⟨ρ, w, h₀, fi⟩)
  obtain ⟨ρ', w', hI, fi'⟩ := hI
  refine turn k ρ' hI s' w' fi' _ _ fun c s₂ w₂ hc x₂ ok₂ => ?_
  have fi₂ := fi'.ext x₂ ok₂
  cases c
  · exact wpAny_execs_nil (kn _ _ s₂ w₂ hc fi₂)
  · refine hc s₂ w₂ fi₂ _ _ (fun fz' ρ'' s₃ w₃ hn fi₃ => ?_) fun v x fz' ρ'' s₃ w₃ hp fi₃ rv => kr v x fz' ρ'' s₃ w₃ hp fi₃ rv
    obtain ⟨rfl, j, hj, hIj⟩ := hn
    exact ⟨j, hj, ρ'', w₃, hIj, fi₃⟩
end
end Mine
end
section
namespace Mine
section
variable {C : Cx} {F : Fc C} {fz : Bool} {ρ : List V}
noncomputable def setAll (ρ : List V) : List Nat → List V → List V
  | i :: is, v :: vs => setAll (ρ.set i v) is vs
  | _, _ => ρ
inductive TNames (F : Fc C) (fz : Bool) : List Expr → List Nat → Prop
  | nil : TNames F fz [] []
  | cons {x p es i is k} : F.env.scope.names[i]? = some (x, k) → Storable F fz x k → TNames F fz es is → TNames F fz (.Name x p :: es) (i :: is)
theorem assign_names {es : List Expr} {is : List Nat} (ht : TNames F fz es is) : ∀ {vs : List V} {xs : List Value} {ρ : List V} {s : Shared} {w : View} {R : Unit → Shared → Prop} {E : Value → Shared → Prop},
    Reps C w vs xs → vs.length = is.length → FI F fz ρ s w → (∀ s', FI F fz (setAll ρ is vs) s' w → KeepD s s' → R () s') →
    wpAny (model C.prog C.wd) F.A (assignInOrder ((assignEach es F.env).map (·.2)) xs) R E s := by
  induction ht with
  | nil =>
    intro vs xs ρ s w R E hr hl fi h
    obtain rfl : vs = [] := by cases vs with | nil => rfl | cons => cases hl
    obtain rfl : xs = [] := hr
    exact wpAny_pure (h s fi (KeepD.refl s))
  | @cons x p es i is k hn hk ht ih =>
    intro vs xs ρ s w R E hr hl fi h
    cases vs with
    | nil => cases hl
    | cons v vs =>
      obtain ⟨y, ys, rfl, ry, rys⟩ := hr
      show wpAny _ _ (do holding ys (assign (.Name x p) F.env y); assignInOrder ((assignEach es F.env).map (·.2)) ys) _ _ _
      exact wpAny_bind (wpAny_holding (wpAny_assign_Name (fi_store fi i hn hk ry fun s' fi' kd => ih rys (by simpa using hl) fi' fun s'' fi'' kd' => h s'' fi'' (kd.trans kd'))))
noncomputable def TupQ (n : Nat) (Q : List V → Prop) : V → Prop
  | .tup vs => vs.length = n ∧ Q vs
  | _ => False
theorem len_assignEach {es : List Expr} {is : List Nat} (ht : TNames F fz es is) : (assignEach es F.env).length = is.length ∧ (assignEach es F.env).findIdx? (·.1) = none := by
  induction ht with
  | nil => exact ⟨rfl, rfl⟩
  | @cons x p es i is k hn hk ht ih =>
    obtain ⟨a, b⟩ := ih
    have e : assignEach (.Name x p :: es) F.env = (false, assign (.Name x p) F.env) :: assignEach es F.env := rfl
    rw [e]
    refine ⟨by simp [a], ?_⟩
    rw [List.findIdx?_cons]
    simp [b]
theorem wp_unpack {es : List Expr} {is : List Nat} {n p} {s : Shared} {w : View} {vs : List V} {v : Value} {R : Unit → Shared → Prop} {E : Value → Shared → Prop} (ht : TNames F fz es is) (fi : FI F fz ρ s w) (rv : Rep C w (.tup vs) v) (hl : vs.length = is.length)
    (h : ∀ s', FI F fz (setAll ρ is vs) s' w → KeepD s s' → R () s') : wpAny (model C.prog C.wd) F.A (assign (.Tuple es n p) F.env v) R E s := by
  obtain ⟨a, items, rfl, hT, hr⟩ := rv
  obtain ⟨l1, l2⟩ := len_assignEach ht
  refine wpAny_assign_Tuple F.room.hand (hT.of' fi.ok) (by rw [l1, List.size_toArray, hr.length, hl]) l2 fun h' hx => ?_
  have keep : ∀ b o, s.heap.get? b = some o → h'.get? b = some o := fun b o e => hx b o (Nat.ne_of_lt (Heap.lt_size e)) e
  have fi' : FI F fz ρ { s with heap := h' } w := fi.ext (Ext.of_keep (tk := s.toks) keep) (fi.ok.keep (tk := s.toks) keep)
  exact assign_names ht hr hl fi' fun s' fi'' kd => h s' fi'' ((KeepD.of (tk := s.toks) keep).trans kd)
noncomputable def constTup (value : Expr) : Bool := match value with
  | .Tuple vs _ _ => vs.all (constantsAlone 8)
  | _ => false
theorem swapped_eq (ts vs : List Expr) (n k2 : Nat) (tp p2 : Pos) (env : Env) : swappedStores [.Tuple ts n tp] (.Tuple vs k2 p2) env =
    (if (!(ts.length == 2 || ts.length == 3) || vs.length != ts.length || env.blockKind != .function) = true then pure none else
     if (vs.any fun | .Starred .. => true | _ => false) = true then pure none else
     if (((ts.filterMap fun | .Name id pos => if (env.kindOf id == some .local && pos.line == (ts.head?.map (·.pos.line)).getD 0) = true then some id else none | _ => none).length != ts.length ||
       (ts.filterMap fun | .Name id pos => if (env.kindOf id == some .local && pos.line == (ts.head?.map (·.pos.line)).getD 0) = true then some id else none | _ => none).eraseDups.length !=
       (ts.filterMap fun | .Name id pos => if (env.kindOf id == some .local && pos.line == (ts.head?.map (·.pos.line)).getD 0) = true then some id else none | _ => none).length) = true) then pure none else
     if vs.all (foldedForSure 8) = true then pure none else
     if vs.all (constantsAlone 8) = true then (unsupported "assign.tuple-of-constant-expressions:order-of-the-stores" : Sem PUnit) >>= fun _ => pure (some (ts.filterMap fun | .Name id pos => if (env.kindOf id == some .local && pos.line == (ts.head?.map (·.pos.line)).getD 0) = true then some id else none | _ => none)) else
     pure (some (ts.filterMap fun | .Name id pos => if (env.kindOf id == some .local && pos.line == (ts.head?.map (·.pos.line)).getD 0) = true then some id else none | _ => none))) := rfl
theorem swapped_none_len {elts n tp value} {env : Env} (h : elts.length ≠ 2) (h' : elts.length ≠ 3) : swappedStores [.Tuple elts n tp] value env = pure none := by
  cases value <;> first | rfl | skip
  rw [swapped_eq, if_pos (by simp [h, h'])]
theorem names2 {x y : Str} {p q : Pos} {f : Expr → Option Str} (hf : ∀ z r, f (.Name z r) = none ∨ f (.Name z r) = some z) (h : ((List.filterMap f [.Name x p, .Name y q]).length != 2) = false) :
    List.filterMap f [.Name x p, .Name y q] = [x, y] := by
  rcases hf x p with h1 | h1 <;> rcases hf y q with h2 | h2 <;> simp [List.filterMap_cons, h1, h2] at h ⊢
theorem names3 {x y z : Str} {p q r : Pos} {f : Expr → Option Str} (hf : ∀ z r, f (.Name z r) = none ∨ f (.Name z r) = some z) (h : ((List.filterMap f [.Name x p, .Name y q, .Name z r]).length != 3) = false) :
    List.filterMap f [.Name x p, .Name y q, .Name z r] = [x, y, z] := by
  rcases hf x p with h1 | h1 <;> rcases hf y q with h2 | h2 <;> rcases hf z r with h3 | h3 <;> simp [List.filterMap_cons, h1, h2, h3] at h ⊢
theorem swapped2 {x y p q n tp value} {env : Env} (hc : constTup value = false) :
    swappedStores [.Tuple [.Name x p, .Name y q] n tp] value env = pure none ∨ swappedStores [.Tuple [.Name x p, .Name y q] n tp] value env = pure (some [x, y]) := by
  cases value <;> first | exact .inl rfl | skip
  rename_i vs k2 p2
  have hc' : vs.all (constantsAlone 8) = false := hc
  rw [swapped_eq]
  split
  · exact .inl rfl
  · split
    · exact .inl rfl
    · split
      · exact .inl rfl
      · rename_i h3
        split
        · exact .inl rfl
        · rw [if_neg (by rw [hc']; decide)]
          right
          have h4 := (Bool.or_eq_false_iff.mp (Bool.not_eq_true _ ▸ h3)).1
          rw [names2 (fun z r => by dsimp only; split <;> simp) h4]
theorem swapped3 {x y z p q r n tp value} {env : Env} (hc : constTup value = false) :
    swappedStores [.Tuple [.Name x p, .Name y q, .Name z r] n tp] value env = pure none ∨ swappedStores [.Tuple [.Name x p, .Name y q, .Name z r] n tp] value env = pure (some [x, y, z]) := by
  cases value <;> first | exact .inl rfl | skip
  rename_i vs k2 p2
  have hc' : vs.all (constantsAlone 8) = false := hc
  rw [swapped_eq]
  split
  · exact .inl rfl
  · split
    · exact .inl rfl
    · split
      · exact .inl rfl
      · rename_i h3
        split
        · exact .inl rfl
        · rw [if_neg (by rw [hc']; decide)]
          right
          have h4 := (Bool.or_eq_false_iff.mp (Bool.not_eq_true _ ▸ h3)).1
          rw [names3 (fun z r => by dsimp only; split <;> simp) h4]
theorem s1_tup (is : List Nat) {elts n tp value pos N P} (ht : TNames F fz elts is) (hs : swapsWithSole [.Tuple elts n tp] value pos.line F.env = pure false) (hw : swappedStores [.Tuple elts n tp] value F.env = pure none)
    (h : EJ F fz ρ value (TupQ is.length fun vs => N fz (setAll ρ is vs))) : S1 F fz ρ (.Assign [.Tuple elts n tp] value pos) N P := fun s w fi R E kn kr =>
  Assign_Tuple (h s w fi _ E fun v y s₁ w₁ h₁ x₁ ok₁ rv => by
    cases v <;> first | exact h₁.elim | skip
    exact wp_unpack ht (fi.ext x₁ ok₁) rv h₁.1 fun s' fi' _ => kn _ _ s' w₁ h₁.2 fi') hs hw
theorem bind_one {s : Shared} {w : View} (fi : FI F fz ρ s w) (i : Nat) {x : Str} {k : NameKind} {v : V} {y : Value} (hn : F.env.scope.names[i]? = some (x, k)) (hk : Storable F fz x k) (rv : Rep C w v y)
    {R : Unit → Shared → Prop} {E : Value → Shared → Prop} (h : ∀ s', FI F fz (ρ.set i v) s' w → R () s') : wpAny (model C.prog C.wd) F.A (bindName F.env x y) R E s := wpAny_bindName (fi_store fi i hn hk rv fun s' fi' _ => h s' fi')
theorem s1_tup2 (i j : Nat) {x y p q n tp value pos k k' N P} (hn : F.env.scope.names[i]? = some (x, k)) (hk : Storable F fz x k) (hn' : F.env.scope.names[j]? = some (y, k')) (hk' : Storable F fz y k') (hij : i ≠ j)
    (hs : swapsWithSole [.Tuple [.Name x p, .Name y q] n tp] value pos.line F.env = pure false) (hc : constTup value = false)
    (h : EJ F fz ρ value (TupQ 2 fun vs => N fz (setAll ρ [i, j] vs))) : S1 F fz ρ (.Assign [.Tuple [.Name x p, .Name y q] n tp] value pos) N P := by
  have ht : TNames F fz [.Name x p, .Name y q] [i, j] := .cons hn hk (.cons hn' hk' .nil)
  rcases swapped2 (n := n) (tp := tp) (p := p) (q := q) (x := x) (y := y) (env := F.env) hc with hw | hw
  · exact s1_tup [i, j] ht hs hw h
  · intro s w fi R E kn kr
    refine Assign_Tuple_swapped (h s w fi _ E fun v u s₁ w₁ h₁ x₁ ok₁ rv => ?_) hs hw
    cases v <;> first | exact h₁.elim | skip
    rename_i vs
    obtain ⟨hl, hN⟩ := h₁
    obtain ⟨a, items, rfl, hT, hr⟩ := rv
    have fi₁ := fi.ext x₁ ok₁
    have hlen : [x, y].length = items.toArray.size := by rw [List.size_toArray, hr.length, hl]; rfl
    rw [hlen]
    refine wpAny_unpackItems_tuple F.room.hand (hT.of' fi₁.ok) fun h' hx => ?_
    have keep : ∀ b o, s₁.heap.get? b = some o → h'.get? b = some o := fun b o e => hx b o (Nat.ne_of_lt (Heap.lt_size e)) e
    have fi' : FI F fz ρ { s₁ with heap := h' } w₁ := fi₁.ext (Ext.of_keep (tk := s₁.toks) keep) (fi₁.ok.keep (tk := s₁.toks) keep)
    match vs, hl, hr, hN with
    | [v1, v2], _, hr, hN =>
      obtain ⟨y1, _, rfl, r1, y2, _, rfl, r2, rfl⟩ := hr
      show wpAny _ _ (do holding [y1] (bindName F.env y y2); do holding [] (bindName F.env x y1); pure ()) _ _ _
      refine wpAny_bind (wpAny_holding (bind_one fi' j hn' hk' r2 fun s' fi₂ => wpAny_bind (wpAny_holding (bind_one fi₂ i hn hk r1 fun s'' fi₃ => wpAny_pure ?_))))
      refine kn _ _ s'' w₁ hN ?_
      show FI F fz ((ρ.set i v1).set j v2) s'' w₁
      rw [List.set_comm _ _ hij]; exact fi₃
theorem s1_tup3 (i j l : Nat) {x y z p q r n tp value pos k k' k'' N P} (hn : F.env.scope.names[i]? = some (x, k)) (hk : Storable F fz x k) (hn' : F.env.scope.names[j]? = some (y, k')) (hk' : Storable F fz y k')
    (hn'' : F.env.scope.names[l]? = some (z, k'')) (hk'' : Storable F fz z k'') (hij : i ≠ j) (hil : i ≠ l) (hjl : j ≠ l)
    (hs : swapsWithSole [.Tuple [.Name x p, .Name y q, .Name z r] n tp] value pos.line F.env = pure false) (hc : constTup value = false)
    (h : EJ F fz ρ value (TupQ 3 fun vs => N fz (setAll ρ [i, j, l] vs))) : S1 F fz ρ (.Assign [.Tuple [.Name x p, .Name y q, .Name z r] n tp] value pos) N P := by
  have ht : TNames F fz [.Name x p, .Name y q, .Name z r] [i, j, l] := .cons hn hk (.cons hn' hk' (.cons hn'' hk'' .nil))
  rcases swapped3 (n := n) (tp := tp) (p := p) (q := q) (r := r) (x := x) (y := y) (z := z) (env := F.env) hc with hw | hw
  · exact s1_tup [i, j, l] ht hs hw h
  · intro s w fi R E kn kr
    refine Assign_Tuple_swapped (h s w fi _ E fun v u s₁ w₁ h₁ x₁ ok₁ rv => ?_) hs hw
    cases v <;> first | exact h₁.elim | skip
    rename_i vs
    obtain ⟨hl, hN⟩ := h₁
    obtain ⟨a, items, rfl, hT, hr⟩ := rv
    have fi₁ := fi.ext x₁ ok₁
    have hlen : [x, y, z].length = items.toArray.size := by rw [List.size_toArray, hr.length, hl]; rfl
    rw [hlen]
    refine wpAny_unpackItems_tuple F.room.hand (hT.of' fi₁.ok) fun h' hx => ?_
    have keep : ∀ b o, s₁.heap.get? b = some o → h'.get? b = some o := fun b o e => hx b o (Nat.ne_of_lt (Heap.lt_size e)) e
    have fi' : FI F fz ρ { s₁ with heap := h' } w₁ := fi₁.ext (Ext.of_keep (tk := s₁.toks) keep) (fi₁.ok.keep (tk := s₁.toks) keep)
    match vs, hl, hr, hN with
    | [v1, v2, v3], _, hr, hN =>
      obtain ⟨y1, _, rfl, r1, y2, _, rfl, r2, y3, _, rfl, r3, rfl⟩ := hr
      show wpAny _ _ (do holding [y2, y1] (bindName F.env z y3); do holding [y1] (bindName F.env y y2); do holding [] (bindName F.env x y1); pure ()) _ _ _
      refine wpAny_bind (wpAny_holding (bind_one fi' l hn'' hk'' r3 fun s' fi₂ => wpAny_bind (wpAny_holding (bind_one fi₂ j hn' hk' r2 fun s₃ fi₃ => wpAny_bind (wpAny_holding (bind_one fi₃ i hn hk r1 fun s'' fi₄ => wpAny_pure ?_))))))
      refine kn _ _ s'' w₁ hN ?_
      show FI F fz (((ρ.set i v1).set j v2).set l v3) s'' w₁
      rw [List.set_comm _ _ hij, List.set_comm _ _ hil, List.set_comm _ _ hjl]; exact fi₄
end
end Mine
end
section
namespace Mine
section
variable {C : Cx}
theorem bindL_skip {kindOf : Str → Option NameKind} {x : Str} : ∀ (binds : List (Str × Value)) (m : Str → Option Value), x ∉ binds.map (·.1) → bindL kindOf binds m x = m x
  | [], m, _ => rfl
  | (n, v) :: r, m, h => by
    have hn : x ≠ n := fun q => h (by rw [q]; exact List.mem_cons_self ..)
    have hr : x ∉ r.map (·.1) := fun q => h (List.mem_cons_of_mem _ q)
    unfold bindL
    rw [bindL_skip r _ hr]
    split
    · exact if_neg hn
    · rfl
theorem bindC_skip {kindOf : Str → Option NameKind} {x : Str} : ∀ (binds : List (Str × Value)) (m : Str → Option Value), x ∉ binds.map (·.1) → bindC kindOf binds m x = m x
  | [], m, _ => rfl
  | (n, v) :: r, m, h => by
    have hn : x ≠ n := fun q => h (by rw [q]; exact List.mem_cons_self ..)
    have hr : x ∉ r.map (·.1) := fun q => h (List.mem_cons_of_mem _ q)
    unfold bindC
    rw [bindC_skip r _ hr]
    split
    · rfl
    · exact if_neg hn
theorem bindL_get {kindOf : Str → Option NameKind} {x : Str} {v : Value} : ∀ (binds : List (Str × Value)) (m : Str → Option Value), (binds.map (·.1)).Nodup → (x, v) ∈ binds → kindOf x = some .local → bindL kindOf binds m x = some v
  | (n, u) :: r, m, hd, h, hk => by
    obtain ⟨h1, h2⟩ := List.nodup_cons.mp hd
    unfold bindL
    rcases List.mem_cons.mp h with q | q
    · cases q
      rw [bindL_skip r _ h1, if_pos hk, if_pos rfl]
    · exact bindL_get r _ h2 q hk
theorem bindC_get {kindOf : Str → Option NameKind} {x : Str} {v : Value} : ∀ (binds : List (Str × Value)) (m : Str → Option Value), (binds.map (·.1)).Nodup → (x, v) ∈ binds → kindOf x ≠ some .local → bindC kindOf binds m x = some v
  | (n, u) :: r, m, hd, h, hk => by
    obtain ⟨h1, h2⟩ := List.nodup_cons.mp hd
    unfold bindC
    rcases List.mem_cons.mp h with q | q
    · cases q
      rw [bindC_skip r _ h1, if_neg hk, if_pos rfl]
    · exact bindC_get r _ h2 q hk
noncomputable def start0 (n : Nat) (vs : List V) : List V := vs ++ List.replicate n .undef
theorem start0_get {n : Nat} {vs : List V} {i : Nat} {v : V} (h : (start0 n vs)[i]? = some v) (hv : v ≠ .undef) : vs[i]? = some v := by
  unfold start0 at h
  rw [List.getElem?_append] at h
  split at h
  · exact h
  · rw [List.getElem?_replicate] at h
    split at h
    · exact absurd (Option.some.inj h).symm hv
    · cases h
structure ScopeOk (scope : Scope) (ps : List Str) : Prop where
  kind : scope.kind = .function
  co : scope.isCoroutine = false
  gen : scope.isGenerator = false
  nodup : (scope.names.map (·.1)).Nodup
  nodbg : ∀ x ∈ scope.names.map (·.1), (x == ("__debug__" : Str)) = false ∧ (x == ("__classdict__" : Str)) = false
  first : ∀ (i : Nat) (x : Str), ps[i]? = some x → ∃ k, scope.names[i]? = some (x, k)
  kinds : ∀ x ∈ ps, scope.names.lookup x = some .local ∨ scope.names.lookup x = some .cell
theorem ps_nodup {scope : Scope} {ps : List Str} (h : ScopeOk scope ps) : ps.Nodup := by
  have : ps = (scope.names.map (·.1)).take ps.length := by
    refine List.ext_getElem? fun i => ?_
    rw [List.getElem?_take]
    by_cases hi : i < ps.length
    · rw [if_pos hi]
      obtain ⟨k, hk⟩ := h.first i _ (List.getElem?_eq_getElem hi)
      rw [List.getElem?_map, hk, List.getElem?_eq_getElem hi]; rfl
    · rw [if_neg hi, List.getElem?_eq_none (by omega)]
  rw [this]
  exact List.Nodup.sublist (List.take_sublist _ _) h.nodup
theorem spec_def (G : C.Good) {g qual : Str} {a : Addr} {params : Arguments} {body : List Stmt} {scope : Scope} {dV kV doc pm cdv ct oc : Value} {an od : Option Addr} {osl : Array (Option Value)} {n : Nat} {ps : List Str} {vs : List V} {P : V → Prop}
    (hg : nsIn C.K mainGlobals g = some (some (.ref a))) (hkeep : keepIn C.K (.ref a) = true)
    (ho : C.K.lookup a = some ⟨oc, od, .func (fnOf g qual params body scope dV kV doc pm an cdv ct), osl⟩) (hcd : codeIn C.K cdv qual = true)
    (hS : ScopeOk scope ps) (hlen : ps.length = vs.length)
    (hb : ∀ xs : List Value, xs.length = vs.length → bindArgs (fnOf g qual params body scope dV kV doc pm an cdv ct) ⟨xs, []⟩ = pure (ps.zip xs))
    (hbody : ∀ F : Fc C, F.n = n → F.env.scope = scope → F.env.code = cdv → (∀ x, scope.names.lookup x = some .cell → (F.env.cells.lookup x).isSome = true) → F.env.qual = qual ++ ".<locals>." →
      SJ F false (start0 (scope.names.length - vs.length) vs) body (fun _ _ => P .none) P) : Spec C (n + 1) g vs P := by
  refine ⟨a, hg, hkeep, fun A s w xs Q E r ok rv k => ?_⟩
  have X := ok.K G
  have hnl : s.heap.NoLimit := G.T.nolimit.keeps ok.heap₀
  have hxs := rv.length
  have hpn := ps_nodup hS
  have hmap : (ps.zip xs).map (·.1) = ps := by rw [← List.unzip_fst, List.unzip_zip (by rw [hxs, hlen])]
  have hk2 : ((ps.zip xs).all fun y => scope.names.lookup y.1 == some NameKind.local || scope.names.lookup y.1 == some NameKind.cell) = true := by
    rw [List.all_eq_true]
    intro y hy
    have : y.1 ∈ ps := (List.of_mem_zip hy).1
    rcases hS.kinds _ this with q | q <;> simp [q]
  refine wpAny_call (codeAny_call_cells (fd := fnOf g qual params body scope dV kV doc pm an cdv ct) (body := body) (binds := ps.zip xs) (by have := r.depth; omega) (X _ _ ho) rfl hnl (codeRec_of X hcd) rfl (hb xs hxs) rfl (kindsX hk2 _) (fun s₁ hc => ?_) hS.co hS.gen hS.kind)
  let fd := fnOf g qual params body scope dV kV doc pm an cdv ct
  let L := s.heap.objs.size
  let env := callEnvC fd L a
  have hnone : s.heap.get? L = none := Heap.get?_none_of_le (Nat.le_refl _)
  let F : Fc C := { A := A.deeper env, env := env, s₀ := s, w₀ := w, n := n, room := r.deeper env, kind := hS.kind, glob := rfl, bltn := rfl, nodup := hS.nodup, nodbg := hS.nodbg }
  have okF : Ok C w s₁ := by
    obtain ⟨h', tk, e⟩ := hc.toInCall.same
    have hkp := hc.toInCall.keep
    subst e
    exact ok.keep hkp
  have fi : FI F false (start0 (scope.names.length - vs.length) vs) s₁ w := by
    refine ⟨hc.toInCall.same, fun b o _ e => hc.toInCall.keep b o e, fun _ _ e => e, fun _ _ _ _ _ => rfl, okF, hnone, ok.none_size, ⟨_, hc.toInCall.ns, fun i x v hn hv hu => ?_⟩, fun i x kk c v hn hkk hcl hv hu => ?_, fun x c hx hcl => ?_, fun x y c h1 h2 => ?_⟩
    · have hv' := start0_get hv hu
      obtain ⟨z, hz, rz⟩ := rv.get hv'
      have hi : i < ps.length := by rw [hlen]; exact (List.getElem?_eq_some_iff.mp hv').1
      obtain ⟨k', hk'⟩ := hS.first i _ (List.getElem?_eq_getElem hi)
      have hxe : ps[i] = x := by have := hk'.symm.trans hn; exact (Prod.mk.inj (Option.some.inj this)).1
      refine ⟨z, bindL_get _ _ (by rw [hmap]; exact hpn) ?_ (F.kindOf hn), rz⟩
      refine List.mem_of_getElem? (i := i) ?_
      rw [List.getElem?_zip_eq_some]
      exact ⟨by rw [List.getElem?_eq_getElem hi, hxe], hz⟩
    · have hv' := start0_get hv hu
      obtain ⟨z, hz, rz⟩ := rv.get hv'
      have hi : i < ps.length := by rw [hlen]; exact (List.getElem?_eq_some_iff.mp hv').1
      obtain ⟨k', hk'⟩ := hS.first i _ (List.getElem?_eq_getElem hi)
      have hxe : ps[i] = x := by have := hk'.symm.trans hn; exact (Prod.mk.inj (Option.some.inj this)).1
      refine ⟨z, ?_, rz⟩
      have hcell := hc.cell x c hcl
      rwa [bindC_get (v := z) _ _ (by rw [hmap]; exact hpn) ?_ (by rw [show env.kindOf x = some kk from F.kindOf hn]; rcases hkk with rfl | rfl <;> intro q <;> cases q)] at hcell
      refine List.mem_of_getElem? (i := i) ?_
      rw [List.getElem?_zip_eq_some]
      exact ⟨by rw [List.getElem?_eq_getElem hi, hxe], hz⟩
    · have hab := hc.above x c (mem_of_lookup hcl)
      have hcn : s.heap.get? c = none := Heap.get?_none_of_le (Nat.le_of_lt hab)
      refine ⟨hcn, ⟨_, hc.cell x c hcl⟩, fun _ => ?_, fun q => by cases q⟩
      cases q : w c with
      | none => rfl
      | some o => rw [ok.vin _ _ q] at hcn; cases hcn
    · exact name_of_addr hc.apart (mem_of_lookup h1) (mem_of_lookup h2)
  refine hbody F rfl rfl rfl (fun x hx => cellsFrom_some _ _ _ (.inl hx)) rfl s₁ w fi _ _ (fun fz' ρ' s' w' hP fi' => ?_) fun v x fz' ρ' s' w' hP fi' rv' => ?_
  · exact k .none .none w' s' hP fi'.toExt fi'.ok rfl
  · exact k v x w' s' hP fi'.toExt fi'.ok rv'
end
end Mine
end
section
namespace Mine
noncomputable def defAt (i : Nat) : Arguments × List Stmt × Scope := match PySem.Challenge.pw_pq1027_01.main.body[i]? with
  | some (.FunctionDef _ args body _ _ _ scope _ _ _) => (args, body, scope)
  | _ => (⟨[], [], none, [], [], none, []⟩, [], { kind := .function, names := [], isGenerator := false, isCoroutine := false })
noncomputable def checkScope (scope : Scope) (ps : List Str) : Bool :=
  (scope.kind == .function) && !scope.isCoroutine && !scope.isGenerator && decide (scope.names.map (·.1)).Nodup && ((scope.names.map (·.1)).all fun x => !(x == ("__debug__" : Str)) && !(x == ("__classdict__" : Str))) && decide ((scope.names.map (·.1)).take ps.length = ps) &&
  ps.all fun x => scope.names.lookup x == some .local || scope.names.lookup x == some .cell
theorem scopeOk_of {scope : Scope} {ps : List Str} (h : checkScope scope ps = true) : ScopeOk scope ps := by
  unfold checkScope at h
  simp only [Bool.and_eq_true, Bool.not_eq_true', beq_iff_eq, decide_eq_true_eq] at h
  obtain ⟨⟨⟨⟨⟨⟨h1, h2⟩, h3⟩, h4⟩, h7⟩, h5⟩, h6⟩ := h
  refine ⟨h1, h2, h3, h4, fun x hx => by simpa using List.all_eq_true.mp h7 x hx, fun i x e => ?_, fun x hx => ?_⟩
  · have hlt : i < ps.length := (List.getElem?_eq_some_iff.mp e).1
    rw [← h5, List.getElem?_take, if_pos hlt, List.getElem?_map] at e
    obtain ⟨p, hp, rfl⟩ := Option.map_eq_some_iff.mp e
    exact ⟨p.2, hp⟩
  · have := List.all_eq_true.mp h6 x hx
    simpa using this
noncomputable def psAt (i : Nat) : List Str := (defAt i).1.args.map (·.arg)
structure FnIs (C : Cx) (g : Str) (i : Nat) : Prop where
  ex : ∃ (a : Addr) (oc : Value) (od : Option Addr) (doc pm : Value) (an : Option Addr) (cdv ct : Value) (osl : Array (Option Value)), nsIn C.K mainGlobals g = some (some (.ref a)) ∧ keepIn C.K (.ref a) = true ∧
    C.K.lookup a = some ⟨oc, od, .func (fnOf g g (defAt i).1 (defAt i).2.1 (defAt i).2.2 .none .none doc pm an cdv ct), osl⟩ ∧ codeIn C.K cdv g = true
theorem FnIs.call {C : Cx} {g : Str} {i : Nat} (h : FnIs C g i) : GCall C g := let ⟨a, _, _, _, _, _, _, _, _, h1, h2, _⟩ := h.ex; ⟨a, h1, h2⟩
theorem spec_fn {C : Cx} (G : C.Good) {g : Str} (i : Nat) (H : FnIs C g i) (n k : Nat) {vs : List V} {P : V → Prop} {p : Str × NameKind} {r : List (Str × NameKind)} {st : Stmt} {sts : List Stmt} (hok : checkScope (defAt i).2.2 (psAt i) = true) (hlen : (psAt i).length = vs.length)
    (hb : ∀ (fd : FuncData), fd.params = (defAt i).1 → fd.defaults = .none → fd.kwdefaults = .none → ∀ xs : List Value, xs.length = vs.length → bindArgs fd ⟨xs, []⟩ = pure ((psAt i).zip xs))
    (hns : (defAt i).2.2.names = p :: r) (hbd : (defAt i).2.1 = st :: sts) (hk : (defAt i).2.2.names.length - vs.length = k)
    (hbody : ∀ F : Fc C, F.n = n → F.env.scope.names = p :: r → (∀ x, (defAt i).2.2.names.lookup x = some .cell → (F.env.cells.lookup x).isSome = true) → F.env.qual = g ++ ".<locals>." →
      SJ F false (vs ++ List.replicate k .undef) (st :: sts) (fun _ _ => P .none) P) : Spec C (n + 1) g vs P := by
  obtain ⟨a, oc, od, doc, pm, an, cdv, ct, osl, h1, h2, h3, h4⟩ := H.ex
  refine spec_def G h1 h2 h3 h4 (scopeOk_of hok) hlen (hb _ rfl rfl rfl) fun F e1 e2 _ e4 e5 => ?_
  have := hbody F e1 (by rw [e2]; exact hns) e4 e5
  unfold start0
  rw [hk, hbd]
  exact this
section
variable {C : Cx} {F : Fc C} {a b c d e f g h i j k l m n o p q r s : Str × NameKind} {t : List (Str × NameKind)}
theorem n0 (hN : F.env.scope.names = a :: t) : F.env.scope.names[0]? = some a := by rw [hN]; rfl
theorem n1 (hN : F.env.scope.names = a :: b :: t) : F.env.scope.names[1]? = some b := by rw [hN]; rfl
theorem n2 (hN : F.env.scope.names = a :: b :: c :: t) : F.env.scope.names[2]? = some c := by rw [hN]; rfl
theorem n3 (hN : F.env.scope.names = a :: b :: c :: d :: t) : F.env.scope.names[3]? = some d := by rw [hN]; rfl
theorem n4 (hN : F.env.scope.names = a :: b :: c :: d :: e :: t) : F.env.scope.names[4]? = some e := by rw [hN]; rfl
theorem n5 (hN : F.env.scope.names = a :: b :: c :: d :: e :: f :: t) : F.env.scope.names[5]? = some f := by rw [hN]; rfl
theorem n6 (hN : F.env.scope.names = a :: b :: c :: d :: e :: f :: g :: t) : F.env.scope.names[6]? = some g := by rw [hN]; rfl
theorem n7 (hN : F.env.scope.names = a :: b :: c :: d :: e :: f :: g :: h :: t) : F.env.scope.names[7]? = some h := by rw [hN]; rfl
theorem n8 (hN : F.env.scope.names = a :: b :: c :: d :: e :: f :: g :: h :: i :: t) : F.env.scope.names[8]? = some i := by rw [hN]; rfl
theorem n9 (hN : F.env.scope.names = a :: b :: c :: d :: e :: f :: g :: h :: i :: j :: t) : F.env.scope.names[9]? = some j := by rw [hN]; rfl
theorem n10 (hN : F.env.scope.names = a :: b :: c :: d :: e :: f :: g :: h :: i :: j :: k :: t) : F.env.scope.names[10]? = some k := by rw [hN]; rfl
theorem n11 (hN : F.env.scope.names = a :: b :: c :: d :: e :: f :: g :: h :: i :: j :: k :: l :: t) : F.env.scope.names[11]? = some l := by rw [hN]; rfl
theorem n12 (hN : F.env.scope.names = a :: b :: c :: d :: e :: f :: g :: h :: i :: j :: k :: l :: m :: t) : F.env.scope.names[12]? = some m := by rw [hN]; rfl
theorem n13 (hN : F.env.scope.names = a :: b :: c :: d :: e :: f :: g :: h :: i :: j :: k :: l :: m :: n :: t) : F.env.scope.names[13]? = some n := by rw [hN]; rfl
theorem n14 (hN : F.env.scope.names = a :: b :: c :: d :: e :: f :: g :: h :: i :: j :: k :: l :: m :: n :: o :: t) : F.env.scope.names[14]? = some o := by rw [hN]; rfl
theorem n15 (hN : F.env.scope.names = a :: b :: c :: d :: e :: f :: g :: h :: i :: j :: k :: l :: m :: n :: o :: p :: t) : F.env.scope.names[15]? = some p := by rw [hN]; rfl
end
end Mine
end
section
namespace Mine
noncomputable def initDef : Arguments × List Stmt × Scope := match PySem.Challenge.pw_pq1027_01.main.body[(7 : Nat)]? with
  | some (.ClassDef _ _ _ body _ _ _ _ _ _ _) => (match body with
    | .FunctionDef _ args body _ _ _ scope _ _ _ :: _ => (args, body, scope)
    | _ => (⟨[], [], none, [], [], none, []⟩, [], { kind := .function, names := [], isGenerator := false, isCoroutine := false }))
  | _ => (⟨[], [], none, [], [], none, []⟩, [], { kind := .function, names := [], isGenerator := false, isCoroutine := false })
structure Cx.RealMk (C : Cx) : Prop where
  glob : nsIn C.K mainGlobals "Real" = some (some (.ref C.RC))
  keep : keepIn C.K (.ref C.RC) = true
  makes : makesIn C.K C.RC = true
  setA : findIn C.K (.ref C.RC) "__setattr__" = some (some (.builtin "object.__setattr__"))
  over : plainOver C.K C.RC = true
  takeM : takerIn C.K C.RC "mantissa" = some none
  takeE : takerIn C.K C.RC "exponent" = some none
  has : hasDictIn C.K C.RC = true
  init : ∃ (fI : Addr) (oc : Value) (od : Option Addr) (doc pm : Value) (an : Option Addr) (cdv ct : Value) (osl : Array (Option Value)),
    findIn C.K (.ref C.RC) "__init__" = some (some (.ref fI)) ∧ typeIn C.K (.ref fI) = some (.type "function") ∧
    C.K.lookup fI = some ⟨oc, od, .func (fnOf "__init__" "Real.__init__" initDef.1 initDef.2.1 initDef.2.2 .none .none doc pm an cdv ct), osl⟩ ∧ codeIn C.K cdv "Real.__init__" = true
theorem putL_len (name : Str) (hsh : Int) (key v : Value) : ∀ es : List DictEntry, (putL name hsh key v es).length ≤ es.length + 1
  | [] => Nat.le_refl _
  | e :: r => by
    unfold putL
    split
    · simp
    · have := putL_len name hsh key v r; simp; exact this
theorem initCells : ∀ x ∈ initDef.2.2.names, x.2 ≠ NameKind.cell := by decide +kernel
theorem initLocs : initDef.2.2.names.lookup (Str.ofString "self") = some NameKind.local ∧ initDef.2.2.names.lookup (Str.ofString "mantissa") = some NameKind.local ∧ initDef.2.2.names.lookup (Str.ofString "exponent") = some NameKind.local := by decide +kernel
theorem initRun {prog : Program} {wd : World} {A : Around} {E : Value → Shared → Prop} {s : Shared} {K : Frag} {h₀ : Heap} {L x C dx fI : Addr} {cdv : Value} {m e : Int} {t u : Tok} {Q : Flow → Shared → Prop}
    (F : Fr h₀ L s.heap (fun y => [((Str.ofString "self"), Value.ref x), (Str.ofString "mantissa", .int m t), (Str.ofString "exponent", .int e u)].reverse.lookup y)) (X : K.In h₀)
    (N : News h₀ L s.heap [(dx, dictOf [] 0)]) (hx : h₀.get? x = some (instObj C dx))
    (setA : findIn K (.ref C) "__setattr__" = some (some (.builtin "object.__setattr__"))) (over : plainOver K C = true) (takeM : takerIn K C "mantissa" = some none) (takeE : takerIn K C "exponent" = some none) (has : hasDictIn K C = true)
    (h : ∀ h' tk es n, Fr h₀ L h' (fun y => [((Str.ofString "self"), Value.ref x), (Str.ofString "mantissa", .int m t), (Str.ofString "exponent", .int e u)].reverse.lookup y) → News h₀ L h' [(dx, dictOf es n)] → RealDict es m e → Q .next { s with heap := h', toks := tk }) :
    wpAny (model prog wd) A (execs initDef.2.1 (envOf "Real.__init__" initDef.2.2 L fI cdv)) Q E s := by
  refine wpAny_execs_cons (plainObj_wpAny_Assign_Attribute ?_)
  refine ld F rfl ?_
  refine ld F rfl ?_
  refine set_dict F X N ⟨F.keep _ _ hx, rfl, rfl, (N _ (List.mem_singleton.mpr rfl)).1⟩ rfl setA over takeM has (by decide +kernel) rfl (.head (fun _ h => nomatch h)) (Nat.le_trans (putL_len ..) (by decide)) fun h₁ F₁ N₁ => ?_
  refine wpAny_execs_cons (plainObj_wpAny_Assign_Attribute ?_)
  refine ld F₁ rfl ?_
  refine ld F₁ rfl ?_
  refine set_dict F₁ X N₁ ⟨F₁.keep _ _ hx, rfl, rfl, (N₁ _ (List.mem_singleton.mpr rfl)).1⟩ rfl setA over takeE has (by rfl) rfl (.head (fun _ h => nomatch h)) (Nat.le_trans (putL_len ..) (Nat.le_trans (Nat.succ_le_succ (putL_len ..)) (by decide))) fun h₂ F₂ N₂ => ?_
  exact wpAny_execs_nil (h _ _ _ _ F₂ N₂ ⟨⟨t, by rfl⟩, ⟨u, by rfl⟩⟩)
theorem spec_Real {C : Cx} (G : C.Good) (RM : C.RealMk) (m e : Int) : Spec C 4 "Real" [.int m, .int e] (fun v => v = .real m e) := by
  refine ⟨C.RC, RM.glob, RM.keep, fun A s w xs Q E r ok rv k => ?_⟩
  obtain ⟨y, ys, rfl, ⟨t, rfl⟩, z, zs, rfl, ⟨u, rfl⟩, rfl⟩ := rv
  obtain ⟨fI, oc, od, doc, pm, an, cdv, ct, osl, i1, i2, i3, i4⟩ := RM.init
  have X := ok.K G
  have hnl : s.heap.NoLimit := G.T.nolimit.keeps ok.heap₀
  obtain ⟨hh, g, d, tk, os⟩ := s
  refine wpAny_call (make_core (makes_of X RM.makes) (looks_findIn X i1) (fun self => bind_fn X self i2) (.inl rfl) ?_)
  have kp : ∀ b o, hh.get? b = some o → ((hh.push emptyDict).push (instObj C.RC hh.objs.size)).get? b = some o := fun b o e => Heap.get?_push_of_some _ (Heap.get?_push_of_some _ e)
  have hx : ((hh.push emptyDict).push (instObj C.RC hh.objs.size)).get? (hh.objs.size + 1) = some (instObj C.RC hh.objs.size) := by
    have := Heap.get?_push_size (hh.push emptyDict) (o := instObj C.RC hh.objs.size) rfl
    rwa [Heap.size_push] at this
  have hd : ((hh.push emptyDict).push (instObj C.RC hh.objs.size)).get? hh.objs.size = some (dictOf [] 0) := Heap.get?_push_of_some _ (Heap.get?_push_size hh (o := emptyDict) rfl)
  have szH : ((hh.push emptyDict).push (instObj C.RC hh.objs.size)).objs.size = hh.objs.size + 2 := by rw [Heap.size_push, Heap.size_push]
  revert kp hx hd szH
  generalize hH : (hh.push emptyDict).push (instObj C.RC hh.objs.size) = H
  intro kp hx hd szH
  have dn : hh.get? hh.objs.size = none := Heap.get?_none_of_le (Nat.le_refl _)
  have r' : Room (A.under (.builtin "type.__call__" ⟨[.ref C.RC, .int m t, .int e u], []⟩)) 2 := by
    refine ⟨r.hand, ?_, ?_⟩
    · have := r.depth
      show A.depth + 1 + 2 < _; omega
    · have := r.units
      show A.units + 1 + 6 * 2 + 20 < _; omega
  refine codeAny_call_def (fd := fnOf "__init__" "Real.__init__" initDef.1 initDef.2.1 initDef.2.2 .none .none doc pm an cdv ct) (body := initDef.2.1) (binds := [(Str.ofString "self", Value.ref (hh.objs.size + 1)), (Str.ofString "mantissa", .int m t), (Str.ofString "exponent", .int e u)])
    (by have := r'.depth; omega) (kp _ _ (X _ _ i3)) rfl (hnl.keeps kp) (codeRec_of (X.keeps kp) i4) rfl (BindsTo.of_eq rfl) initCells (fun y hy => by
      rcases List.mem_cons.mp hy with rfl | hy
      · exact initLocs.1
      rcases List.mem_cons.mp hy with rfl | hy
      · exact initLocs.2.1
      rcases List.mem_cons.mp hy with rfl | hy
      · exact initLocs.2.2
      · cases hy) (fun h₁ hns hk₁ => ?_) rfl rfl rfl
  have Kd : ∀ b o, C.h₀.get? b = some o → (H.hide hh.objs.size).get? b = some o := fun b o e => by
    have e' := ok.heap₀ b o e
    rw [Heap.hide_ne _ (fun q => by rw [q] at e'; rw [dn] at e'; cases e')]
    exact kp _ _ e'
  have hxd : (H.hide hh.objs.size).get? (hh.objs.size + 1) = some (instObj C.RC hh.objs.size) := by
    rw [Heap.hide_ne _ (Nat.succ_ne_self _)]; exact hx
  have F₁ : Fr (H.hide hh.objs.size) H.objs.size h₁ (fun y => [(Str.ofString "self", Value.ref (hh.objs.size + 1)), (Str.ofString "mantissa", .int m t), (Str.ofString "exponent", .int e u)].reverse.lookup y) :=
    ⟨hns, fun b o e => hk₁ b o (Heap.of_hide e), by rw [Heap.hide_size]; exact Nat.le_refl _⟩
  have N₁ : News (H.hide hh.objs.size) H.objs.size h₁ [(hh.objs.size, dictOf [] 0)] := fun p hp => by
    obtain rfl := List.mem_singleton.mp hp
    exact ⟨hk₁ _ _ hd, (by show hh.objs.size ≠ H.objs.size; omega), Heap.hide_self _ _⟩
  refine initRun (A := (A.under (.builtin "type.__call__" ⟨[.ref C.RC, .int m t, .int e u], []⟩)).deeper _) (s := { heap := h₁, gens := g, drawn := d, toks := tk + 3, os := os }) F₁ (G.X.keeps Kd) N₁ hxd RM.setA RM.over RM.takeM RM.takeE RM.has fun h' tk' es n F' N' D => ?_
  have keep : ∀ b o, hh.get? b = some o → h'.get? b = some o := fun b o e => by
    refine F'.keep b o ?_
    rw [Heap.hide_ne _ (fun q => by rw [q, dn] at e; cases e)]
    exact kp _ _ e
  have hx' : h'.get? (hh.objs.size + 1) = some (instObj C.RC hh.objs.size) := F'.keep _ _ hxd
  have hd' : h'.get? hh.objs.size = some (dictOf es n) := (N' _ (List.mem_singleton.mpr rfl)).1
  have wn : w hh.objs.size = none := ok.none_size
  have wn' : w (hh.objs.size + 1) = none := by
    cases q : w (hh.objs.size + 1) with
    | none => rfl
    | some o =>
      have := ok.vin _ _ q
      exact absurd (Heap.lt_size this) (by show ¬ (hh.objs.size + 1 < hh.objs.size); omega)
  have le1 : VLe w (put w hh.objs.size (dictOf es n)) := VLe.put wn
  have le2 : VLe (put w hh.objs.size (dictOf es n)) (put (put w hh.objs.size (dictOf es n)) (hh.objs.size + 1) (instObj C.RC hh.objs.size)) := VLe.put (by rw [put_ne (Nat.succ_ne_self _)]; exact wn')
  refine ⟨rfl, k (.real m e) _ (put (put w hh.objs.size (dictOf es n)) (hh.objs.size + 1) (instObj C.RC hh.objs.size)) _ rfl ?_ ?_ ?_⟩
  · refine ⟨⟨_, _, rfl⟩, fun b o _ e => keep b o e, fun b o e => le2 _ _ (le1 _ _ e), fun b o _ e _ => ?_⟩
    have hb := Heap.lt_size e
    have hb' : b < hh.objs.size := hb
    rw [put_ne (Nat.ne_of_lt (Nat.lt_succ_of_lt hb')), put_ne (Nat.ne_of_lt hb')]
  · refine ⟨fun b o e => ?_, fun b o e => le2 _ _ (le1 _ _ (ok.top b o e)), ok.tabs.keep keep, fun t' ht => ?_⟩
    · by_cases h1 : b = hh.objs.size + 1
      · subst h1; rw [put_self] at e; cases e; exact hx'
      · rw [put_ne h1] at e
        by_cases h2 : b = hh.objs.size
        · subst h2; rw [put_self] at e; cases e; exact hd'
        · rw [put_ne h2] at e; exact keep _ _ (ok.vin _ _ e)
    · obtain ⟨ps, e, _⟩ := ok.tabs t' ht
      have hb := Heap.lt_size e
      have hb' : t'.2.1 < hh.objs.size := hb
      rw [put_ne (Nat.ne_of_lt (Nat.lt_succ_of_lt hb')), put_ne (Nat.ne_of_lt hb')]; exact ok.hid t' ht
  · refine ⟨hh.objs.size + 1, hh.objs.size, es, n, rfl, put_self .., ?_, D⟩
    rw [put_ne (show hh.objs.size ≠ hh.objs.size + 1 by omega), put_self]
end Mine
end
section
namespace Mine
section
variable {C : Cx} {F : Fc C} {ρ : List V}
noncomputable def OwnCell (F : Fc C) (b : Addr) : Prop := ∃ x, F.env.scope.names.lookup x = some NameKind.cell ∧ F.env.cells.lookup x = some b
open Classical in
theorem FI.freeze {s : Shared} {w : View} (fi : FI F false ρ s w) : ∃ w', VLe w w' ∧ FI F true ρ s w' := by
  let w' : View := fun b => if OwnCell F b then s.heap.get? b else w b
  have hown : ∀ b, OwnCell F b → F.s₀.heap.get? b = none ∧ (∃ o, s.heap.IsCell b o) ∧ w b = none := fun b ⟨x, h1, h2⟩ => by
    obtain ⟨a, c, d⟩ := fi.ownC x b h1 h2; exact ⟨a, c, d.1 rfl⟩
  have e1 : ∀ b, ¬ OwnCell F b → w' b = w b := fun b h => if_neg h
  have e2 : ∀ b, OwnCell F b → w' b = s.heap.get? b := fun b h => if_pos h
  have le : VLe w w' := fun b o e => by
    by_cases h : OwnCell F b
    · rw [(hown b h).2.2] at e; cases e
    · rw [e1 b h]; exact e
  obtain ⟨m, hns, hm⟩ := fi.ns
  refine ⟨w', le, ⟨fi.same, fi.keep, fun b o e => le _ _ (fi.vle b o e), fun b o hb e hd => ?_, ⟨fun b o e => ?_, fun b o e => le _ _ (fi.ok.top b o e), fi.ok.tabs, fun t ht => ?_⟩, fi.fresh, ?_,
    ⟨m, hns, fun i x v a b c => let ⟨y, p, q⟩ := hm i x v a b c; ⟨y, p, q.mono le⟩⟩, fun i x k c v a b d e f => let ⟨y, p, q⟩ := fi.cells i x k c v a b d e f; ⟨y, p, q.mono le⟩, fun x c a b => ?_, fi.apart⟩⟩
  · rw [e1 b (fun h => by rw [(hown b h).1] at e; cases e)]; exact fi.old b o hb e hd
  · by_cases h : OwnCell F b
    · rw [e2 b h] at e; exact e
    · rw [e1 b h] at e; exact fi.ok.vin b o e
  · rw [e1 _ (fun h => by obtain ⟨_, ⟨o, hc⟩, _⟩ := hown _ h; exact fi.ok.nt_cell hc t ht rfl)]; exact fi.ok.hid t ht
  · rw [e1 _ (fun h => by obtain ⟨_, ⟨o, hc⟩, _⟩ := hown _ h; exact Cell_ne_ns hc hns rfl)]; exact fi.hidL
  · obtain ⟨p, ⟨o, q⟩, r⟩ := fi.ownC x c a b
    refine ⟨p, ⟨o, q⟩, (fun h => by cases h), fun _ => ?_⟩
    obtain ⟨oo, e, _⟩ := q
    exact ⟨oo, by rw [e2 c ⟨x, a, b⟩]; exact e⟩
theorem sj_freeze {sts N P} (h : SJ F true ρ sts N P) : SJ F false ρ sts N P := fun s w fi R E kn kr => by
  obtain ⟨w', _, fi'⟩ := fi.freeze
  exact h s w' fi' R E kn kr
theorem closure_ok {scope : Scope} {env : Env} (h : ∀ x, (x, NameKind.free) ∈ scope.names → (env.cells.lookup x).isSome = true) :
    ∃ clos, closureFor scope env = pure clos ∧ (∀ x c, clos.lookup x = some c → env.cells.lookup x = some c) ∧ (∀ x, (x, NameKind.free) ∈ scope.names → (clos.lookup x).isSome = true) := by
  have key : ∀ (l : List (Str × NameKind)) (acc : List (Str × Addr)), (∀ x, (x, NameKind.free) ∈ l → (env.cells.lookup x).isSome = true) → (∀ x c, acc.lookup x = some c → env.cells.lookup x = some c) →
      ∃ clos, (forIn l acc fun (x : Str × NameKind) cs => match x with | (name, kind) => if (kind == NameKind.free) = true then (do let c ← cellOf env name; pure (ForInStep.yield ((name, c) :: cs))) else pure (ForInStep.yield cs) : Sem (List (Str × Addr))) = pure clos ∧
        (∀ x c, clos.lookup x = some c → env.cells.lookup x = some c) ∧ (∀ x, (acc.lookup x).isSome = true ∨ (x, NameKind.free) ∈ l → (clos.lookup x).isSome = true) := by
    intro l
    induction l with
    | nil => intro acc _ h2; exact ⟨acc, rfl, h2, fun x hx => hx.elim id fun q => nomatch q⟩
    | cons p r ih =>
      intro acc h1 h2
      obtain ⟨x, k⟩ := p
      rw [List.forIn_cons]
      by_cases hk : k = .free
      · subst hk
        obtain ⟨c, hc⟩ := Option.isSome_iff_exists.mp (h1 x (List.mem_cons_self ..))
        obtain ⟨clos, e, q1, q2⟩ := ih ((x, c) :: acc) (fun y hy => h1 y (List.mem_cons_of_mem _ hy)) (fun y c' hy => by
          rw [List.lookup_cons] at hy
          split at hy
          · rename_i hb; cases hy; rw [eq_of_beq hb]; exact hc
          · exact h2 y c' hy)
        refine ⟨clos, ?_, q1, fun y hy => q2 y ?_⟩
        · rw [← e]
          simp only [cellOf, hc, beq_self_eq_true, if_true, pure_bind]
        · rcases hy with hy | hy
          · left; rw [List.lookup_cons]; split
            · rfl
            · exact hy
          · rcases List.mem_cons.mp hy with q | q
            · cases q; left; rw [List.lookup_cons, beq_self_eq_true]; rfl
            · exact .inr q
      · obtain ⟨clos, e, q1, q2⟩ := ih acc (fun y hy => h1 y (List.mem_cons_of_mem _ hy)) h2
        refine ⟨clos, ?_, q1, fun y hy => q2 y ?_⟩
        · rw [← e]
          have : (k == NameKind.free) = false := by simpa using hk
          simp only [this, Bool.false_eq_true, if_false, pure_bind]
        · rcases hy with hy | hy
          · exact .inl hy
          · rcases List.mem_cons.mp hy with q | q
            · cases q; exact absurd rfl hk
            · exact .inr q
  obtain ⟨clos, e, q1, q2⟩ := key scope.names [] h (fun x c hx => by cases hx)
  refine ⟨clos, ?_, q1, fun x hx => q2 x (.inr hx)⟩
  have e' : closureFor scope env = ((forIn scope.names ([] : List (Str × Addr)) fun (x : Str × NameKind) cs => match x with | (name, kind) => if (kind == NameKind.free) = true then (do let c ← cellOf env name; pure (ForInStep.yield ((name, c) :: cs))) else pure (ForInStep.yield cs) : Sem (List (Str × Addr))) >>= fun cs => pure cs) := rfl
  rw [e', e]
  rfl
end
end Mine
end
section
namespace Mine
section
variable {C : Cx} {F : Fc C} {ρ : List V}
theorem triples_one {l : List Value} (h : TriplesOk l) {x : Str} {t : Tok} : l[1]? ≠ some (.str x t) := by
  intro e
  match l, h with
  | [], _ => cases e
  | .int _ _ :: .int _ _ :: _ :: _, _ => cases e
theorem triples_snoc {a b : Int} {t u : Tok} {c : Value} : ∀ {l : List Value}, TriplesOk l → TriplesOk (l ++ [.int a t, .int b u, c])
  | [], _ => trivial
  | .int _ _ :: .int _ _ :: _ :: r, h => triples_snoc (l := r) h
theorem among_snoc {pos : Pos} {a b : Int} {t u : Tok} {c cv : Value} : ∀ {l : List Value}, TriplesOk l → codeAmong pos (l ++ [.int a t, .int b u, c]) = some cv → codeAmong pos l = some cv ∨ cv = c
  | [], _, h => by
    simp only [List.nil_append, codeAmong] at h
    split at h
    · cases h; exact .inr rfl
    · cases h
  | .int x _ :: .int y _ :: z :: r, hl, h => by
    simp only [List.cons_append, codeAmong] at h ⊢
    split at h
    · rename_i q; rw [if_pos q]; exact .inl h
    · rename_i q; rw [if_neg q]; exact among_snoc (l := r) hl h
theorem Ok.nt_code {w : View} {s : Shared} (ok : Ok C w s) {c : Addr} {o : Obj} {vs : Array Value} {x : Str} {t : Tok} (e : s.heap.get? c = some o) (hd : o.data = .fields vs) (hv : vs[1]? = some (.str x t)) : NT C c := fun q hq => by
  rintro rfl
  obtain ⟨ps, e', h, _⟩ := ok.tabs q hq
  rw [e] at e'; cases e'
  cases hd
  exact triples_one h (by rw [← hv, Array.getElem?_toList])
structure CloObj (fo : Obj) (fb : FuncBody) (params : Arguments) (scope : Scope) (clos : List (Str × Addr)) (qual : Str) (c' : Addr) : Prop where
  live : fo.isFreed = false
  fd : ∃ fd, fo.data = .func fd ∧ fd.params = params ∧ fd.body = fb ∧ fd.scope = scope ∧ fd.closure = clos ∧ fd.globals = mainGlobals ∧ fd.builtins = builtinsNs ∧ fd.qualname = qual ∧ fd.code = .ref c' ∧ fd.defaults = .none ∧ fd.kwdefaults = .none
structure Made (C : Cx) (fb : FuncBody) (params : Arguments) (scope : Scope) (clos : List (Str × Addr)) (qual : Str) (w : View) (s : Shared) (w' : View) (s' : Shared) (f : Addr) : Prop where
  ext : Ext C w s w' s'
  ok : Ok C w' s'
  obj : ∃ fo c' oc vs t, w' f = some fo ∧ CloObj fo fb params scope clos qual c' ∧ w' c' = some oc ∧ oc.data = .fields vs ∧ vs[1]? = some (.str qual t)
theorem after_miss (G : C.Good) {fb : FuncBody} {params : Arguments} {scope : Scope} {clos : List (Str × Addr)} {qual : Str} {w : View} {s : Shared} {c P : Addr} {ps : Array Value} {pos : Pos} {c' : Addr} {h' : Heap} {tk : Nat} {fo : Obj} (ok : Ok C w s)
    (ht : (c, P, qual) ∈ C.tabs) (hP : s.heap.get? P = some (tabObj ps)) (hx : Heap.ExtBut P s.heap h') (hge : s.heap.objs.size ≤ c') (hlt : c' < h'.objs.size) (hrec : h'.CodeRec (.ref c') qual)
    (htb : h'.get? P = some (tabObj (ps ++ #[rawInt pos.line, rawInt pos.col, .ref c']))) (hfo : CloObj fo fb params scope clos qual c') : ∃ w', Made C fb params scope clos qual w s w' { s with heap := h'.push fo, toks := tk } h'.objs.size := by
  obtain ⟨c₁, oc, vs, t, e1, hoc, hd, hv⟩ := hrec
  cases e1
  have nP : ∀ b, NT C b → b ≠ P := fun b hb => hb _ ht
  have wc : w c' = none := by
    cases q : w c' with
    | none => rfl
    | some o => exact absurd (Heap.lt_size (ok.vin _ _ q)) (Nat.not_lt.mpr hge)
  have wf : w h'.objs.size = none := by
    cases q : w h'.objs.size with
    | none => rfl
    | some o => exact absurd (Nat.lt_trans (Heap.lt_size (ok.vin _ _ q)) (Nat.lt_of_le_of_lt hge hlt)) (Nat.lt_irrefl _)
  have hcf : c' ≠ h'.objs.size := Nat.ne_of_lt hlt
  have le1 : VLe w (put w c' oc) := VLe.put wc
  have le2 : VLe (put w c' oc) (put (put w c' oc) h'.objs.size fo) := VLe.put (by rw [put_ne (Ne.symm hcf)]; exact wf)
  have kp : ∀ b o, b ≠ P → s.heap.get? b = some o → (h'.push fo).get? b = some o := fun b o hb e => Heap.get?_push_of_some _ (hx b o hb e)
  have hge' : ∀ b o, s.heap.get? b = some o → b ≠ c' ∧ b ≠ h'.objs.size := fun b o e => by
    have := Heap.lt_size e
    exact ⟨Nat.ne_of_lt (Nat.lt_of_lt_of_le this hge), Nat.ne_of_lt (Nat.lt_trans (Nat.lt_of_lt_of_le this hge) hlt)⟩
  refine ⟨put (put w c' oc) h'.objs.size fo, ⟨⟨_, _, rfl⟩, fun b o hb e => kp b o (nP b hb) e, fun b o e => le2 _ _ (le1 _ _ e), fun b o _ e _ => ?_⟩, ⟨fun b o e => ?_, fun b o e => le2 _ _ (le1 _ _ (ok.top b o e)), fun q hq => ?_, fun q hq => ?_⟩, fo, c', oc, vs, t, put_self .., hfo, ?_, hd, hv⟩
  · rw [put_ne (hge' b o e).2, put_ne (hge' b o e).1]
  · by_cases h1 : b = h'.objs.size
    · subst h1; rw [put_self] at e; cases e; exact Heap.get?_push_size _ hfo.live
    · rw [put_ne h1] at e
      by_cases h2 : b = c'
      · subst h2; rw [put_self] at e; cases e; exact Heap.get?_push_of_some _ hoc
      · rw [put_ne h2] at e
        exact kp _ _ (nP _ (ok.nt_v e)) (ok.vin _ _ e)
  · by_cases hp : q.2.1 = P
    · obtain ⟨ps', e', h1, h2⟩ := ok.tabs q hq
      rw [hp, hP] at e'; cases e'
      have hq2 : q.2.2 = qual := G.tabu q hq _ ht hp
      refine ⟨ps ++ #[rawInt pos.line, rawInt pos.col, .ref c'], by rw [hp]; exact Heap.get?_push_of_some _ htb, ?_, fun p cv hcv => ?_⟩
      · rw [Array.toList_append]; exact triples_snoc h1
      · rw [Array.toList_append] at hcv
        rcases among_snoc h1 hcv with hcv | rfl
        · obtain ⟨c2, o2, vs2, t2, a1, a2, a3, a4⟩ := h2 p cv hcv
          exact ⟨c2, o2, vs2, t2, a1, kp _ _ (nP _ (ok.nt_code a2 a3 a4)) a2, a3, a4⟩
        · exact ⟨c', oc, vs, t, rfl, Heap.get?_push_of_some _ hoc, hd, by rw [hq2]; exact hv⟩
    · obtain ⟨ps', e', h1, h2⟩ := ok.tabs q hq
      refine ⟨ps', kp _ _ hp e', h1, fun p cv hcv => ?_⟩
      obtain ⟨c2, o2, vs2, t2, a1, a2, a3, a4⟩ := h2 p cv hcv
      exact ⟨c2, o2, vs2, t2, a1, kp _ _ (nP _ (ok.nt_code a2 a3 a4)) a2, a3, a4⟩
  · obtain ⟨ps', e', _⟩ := ok.tabs q hq
    rw [put_ne (hge' _ _ e').2, put_ne (hge' _ _ e').1]; exact ok.hid q hq
  · rw [put_ne hcf, put_self]
theorem after_hit {fb : FuncBody} {params : Arguments} {scope : Scope} {clos : List (Str × Addr)} {qual : Str} {w : View} {s : Shared} {c P : Addr} {ps : Array Value} {pos : Pos} {cv : Value} {h' : Heap} {tk : Nat} {fo : Obj} (ok : Ok C w s)
    (ht : (c, P, qual) ∈ C.tabs) (hP : s.heap.get? P = some (tabObj ps)) (hf : codeAmong pos ps.toList = some cv) (hk : ∀ b o, s.heap.get? b = some o → h'.get? b = some o) (hsz : s.heap.objs.size ≤ h'.objs.size)
    (hfo : ∀ c', cv = .ref c' → CloObj fo fb params scope clos qual c') : ∃ w', Made C fb params scope clos qual w s w' { s with heap := h'.push fo, toks := tk } h'.objs.size := by
  obtain ⟨ps', e', h1, h2⟩ := ok.tabs _ ht
  rw [hP] at e'; cases e'
  obtain ⟨c', oc, vs, t, rfl, hoc, hd, hv⟩ := h2 pos cv hf
  have hfo' := hfo c' rfl
  have hnt : NT C c' := ok.nt_code hoc hd hv
  have hcl := Heap.lt_size hoc
  have wf : w h'.objs.size = none := by
    cases q : w h'.objs.size with
    | none => rfl
    | some o => exact absurd (Nat.lt_of_lt_of_le (Heap.lt_size (ok.vin _ _ q)) hsz) (Nat.lt_irrefl _)
  have hcf : c' ≠ h'.objs.size := Nat.ne_of_lt (Nat.lt_of_lt_of_le hcl hsz)
  have le1 : VLe w (put w c' oc) := fun b o e => by
    by_cases hb : b = c'
    · subst hb; have := ok.vin _ _ e; rw [hoc] at this; cases this; exact put_self ..
    · rw [put_ne hb]; exact e
  have le2 : VLe (put w c' oc) (put (put w c' oc) h'.objs.size fo) := VLe.put (by rw [put_ne (Ne.symm hcf)]; exact wf)
  have kp : ∀ b o, s.heap.get? b = some o → (h'.push fo).get? b = some o := fun b o e => Heap.get?_push_of_some _ (hk b o e)
  have hne : ∀ b o, s.heap.get? b = some o → b ≠ h'.objs.size := fun b o e => Nat.ne_of_lt (Nat.lt_of_lt_of_le (Heap.lt_size e) hsz)
  refine ⟨put (put w c' oc) h'.objs.size fo, ⟨⟨_, _, rfl⟩, fun b o _ e => kp b o e, fun b o e => le2 _ _ (le1 _ _ e), fun b o _ e hnd => ?_⟩, ⟨fun b o e => ?_, fun b o e => le2 _ _ (le1 _ _ (ok.top b o e)), ok.tabs.keep kp, fun q hq => ?_⟩, fo, c', oc, vs, t, put_self .., hfo', ?_, hd, hv⟩
  · rw [put_ne (hne b o e), put_ne (fun q => by subst q; rw [hoc] at e; cases e; exact hnd _ _ _ hd hv)]
  · by_cases h3 : b = h'.objs.size
    · subst h3; rw [put_self] at e; cases e; exact Heap.get?_push_size _ hfo'.live
    · rw [put_ne h3] at e
      by_cases h4 : b = c'
      · subst h4; rw [put_self] at e; cases e; exact kp _ _ hoc
      · rw [put_ne h4] at e; exact kp _ _ (ok.vin _ _ e)
  · obtain ⟨ps', e', _⟩ := ok.tabs q hq
    rw [put_ne (hne _ _ e'), put_ne (Ne.symm (hnt q hq))]; exact ok.hid q hq
  · rw [put_ne hcf, put_self]
theorem bltAt (G : C.Good) {w : View} {s : Shared} (ok : Ok C w s) {P : Addr} {ps : Array Value} (hP : s.heap.get? P = some (tabObj ps)) : s.heap.BuiltinsAt C.mg P ∧ mainGlobals ≠ P ∧ s.heap.Ns mainGlobals C.mg := by
  have hgs := G.T.g.keeps ok.heap₀
  obtain ⟨bm, ob, b1, b2, b3, b4, b5, b6⟩ := G.T.bmain
  have hgP : mainGlobals ≠ P := Ns_ne_tab hgs hP
  have b3' := ok.heap₀ _ _ b3
  have hbP : bm ≠ P := fun q => by rw [q, hP] at b3'; cases b3'; cases b4
  have hbG : bm ≠ mainGlobals := fun q => by
    obtain ⟨o, es, ep, e, hd, _⟩ := hgs
    rw [q, e] at b3'; cases b3'; rw [hd] at b6; cases b6
  exact ⟨⟨bm, ob, b1, b2, hbG, hbP, b3', b4, b5, b6⟩, hgP, hgs⟩
theorem make_lambda (G : C.Good) {name qual : Str} {params : Arguments} {body : Expr} {scope : Scope} {clos : List (Str × Addr)} {c P : Addr} {w : View} {s : Shared} {pos : Pos} {fl : Nat} {A : Around} {env : Env} {R E : Value → Shared → Prop} (ok : Ok C w s)
    (hcl : closureFor scope env = pure clos) (hge : env.globals = mainGlobals) (hc : env.code = .ref c) (ht : (c, P, qual) ∈ C.tabs)
    (h : ∀ f w' s', Made C (.expr body) params scope clos qual w s w' s' f → R (.ref f) s') : wpAny (model C.prog C.wd) A (makeFunction name qual params (.expr body) scope env [] [] [] pos fl) R E s := by
  obtain ⟨ps, hP, h1, h2⟩ := ok.tabs _ ht
  obtain ⟨hb, hgP, hgs⟩ := bltAt G ok hP
  have hd := (G.heads _ ht).keeps ok.heap₀
  cases hf : codeAmong pos ps.toList with
  | none =>
    refine kla_makeFunction hcl hge hgs hc hd hP h1 hf hgP hb fun c' ctv h' tk hx hge hlt hrec htb => ?_
    obtain ⟨w', M⟩ := after_miss (fb := .expr body) (params := params) (scope := scope) (clos := clos) (tk := tk) (fo := kla_obj name qual params body scope clos ((C.mg "__name__").getD .none) c' ctv) G ok ht hP hx hge hlt hrec htb ⟨rfl, _, rfl, rfl, rfl, rfl, rfl, rfl, rfl, rfl, rfl, rfl, rfl⟩
    exact h _ w' _ M
  | some cv =>
    refine kla_makeFunctionHit hcl hge hgs hc hd hP h1 hf hb fun ctv h' tk hk hsz => ?_
    obtain ⟨w', M⟩ := after_hit (fb := .expr body) (params := params) (scope := scope) (clos := clos) (tk := tk) (fo := { cls := .type "function", data := .func (kla_fn name qual params body scope clos ((C.mg "__name__").getD .none) cv ctv) }) ok ht hP hf hk hsz (fun c' e => by subst e; exact ⟨rfl, _, rfl, rfl, rfl, rfl, rfl, rfl, rfl, rfl, rfl, rfl, rfl⟩)
    exact h _ w' _ M
theorem make_def (G : C.Good) {name qual : Str} {params : Arguments} {body : List Stmt} {scope : Scope} {clos : List (Str × Addr)} {c P : Addr} {w : View} {s : Shared} {pos : Pos} {fl : Nat} {A : Around} {env : Env} {R E : Value → Shared → Prop} (ok : Ok C w s)
    (hcl : closureFor scope env = pure clos) (hge : env.globals = mainGlobals) (hc : env.code = .ref c) (ht : (c, P, qual) ∈ C.tabs)
    (h : ∀ f w' s', Made C (.stmts body) params scope clos qual w s w' s' f → R (.ref f) s') : wpAny (model C.prog C.wd) A (makeFunction name qual params (.stmts body) scope env [] [] [] pos fl) R E s := by
  obtain ⟨ps, hP, h1, h2⟩ := ok.tabs _ ht
  obtain ⟨hb, hgP, hgs⟩ := bltAt G ok hP
  have hd := (G.heads _ ht).keeps ok.heap₀
  cases hf : codeAmong pos ps.toList with
  | none =>
    refine makeFunction_K hcl hge hgs hc hd hP h1 hf hgP hb fun c' ctv doc h' tk hx hge hlt hrec htb => ?_
    obtain ⟨w', M⟩ := after_miss (fb := .stmts body) (params := params) (scope := scope) (clos := clos) (tk := tk) (fo := fnMade name qual params body scope clos doc ((C.mg "__name__").getD .none) c' ctv) G ok ht hP hx hge hlt hrec htb ⟨rfl, _, rfl, rfl, rfl, rfl, rfl, rfl, rfl, rfl, rfl, rfl, rfl⟩
    exact h _ w' _ M
  | some cv =>
    refine makeFunction_hit hcl hge hgs hc hd hP h1 hf hb fun ctv doc h' tk hk hsz => ?_
    obtain ⟨w', M⟩ := after_hit (fb := .stmts body) (params := params) (scope := scope) (clos := clos) (tk := tk) (fo := { cls := .type "function", data := .func (fnX name qual params body scope clos .none .none doc ((C.mg "__name__").getD .none) none cv ctv) }) ok ht hP hf hk hsz (fun c' e => by subst e; exact ⟨rfl, _, rfl, rfl, rfl, rfl, rfl, rfl, rfl, rfl, rfl, rfl, rfl⟩)
    exact h _ w' _ M
end
end Mine
end
section
namespace Mine
section
variable {C : Cx} {F : Fc C} {ρ : List V}
noncomputable def CapOk (F : Fc C) (ρ : List V) (p : Str) (k : Int) : List (Str × NameKind) → List V → Prop
  | (x, kd) :: ns, v :: vs => (v = .undef ∨ (kd = .local ∧ x = p ∧ v = .int k) ∨ (kd = .free ∧ ∃ j : Nat, F.env.scope.names[j]? = some (x, NameKind.cell) ∧ ρ[j]? = some v)) ∧ CapOk F ρ p k ns vs
  | _, _ => True
theorem CapOk.get {F : Fc C} {ρ : List V} {p : Str} {k : Int} : ∀ {ns : List (Str × NameKind)} {vs : List V} {i : Nat} {x : Str} {kd : NameKind} {v : V}, CapOk F ρ p k ns vs → ns[i]? = some (x, kd) → vs[i]? = some v → v ≠ .undef →
    (kd = .local ∧ x = p ∧ v = .int k) ∨ (kd = .free ∧ ∃ j : Nat, F.env.scope.names[j]? = some (x, NameKind.cell) ∧ ρ[j]? = some v)
  | _ :: _, _ :: _, 0, _, _, _, h, e1, e2, hv => by cases e1; cases e2; exact h.1.resolve_left hv
  | _ :: _, _ :: _, i + 1, _, _, _, h, e1, e2, hv => CapOk.get (i := i) h.2 e1 e2 hv
structure InnerOk (scope : Scope) (p : Str) : Prop where
  kind : scope.kind = .function
  co : scope.isCoroutine = false
  gen : scope.isGenerator = false
  nodup : (scope.names.map (·.1)).Nodup
  nodbg : ∀ x ∈ scope.names.map (·.1), (x == ("__debug__" : Str)) = false ∧ (x == ("__classdict__" : Str)) = false
  nocell : ∀ x ∈ scope.names, x.2 ≠ .cell
  par : scope.names.lookup p = some .local
theorem inner_fi {scope : Scope} {p : Str} {clos : List (Str × Addr)} {s₂ : Shared} {w₁ w₂ : View} {k : Int} {t : Tok} {ρ' : List V} {h' : Heap} {s : Shared} {F' : Fc C} (fi : FI F true ρ s w₁)
    (hS : InnerOk scope p) (hclos : ∀ x c, clos.lookup x = some c → F.env.cells.lookup x = some c)
    (hle : VLe w₁ w₂) (ok : Ok C w₂ s₂) (hcap : CapOk F ρ p k scope.names ρ')
    (hns : h'.Ns s₂.heap.objs.size (fun x => [(p, Value.int k t)].reverse.lookup x)) (hsb : Heap.SameBut s₂.heap.objs.size (s₂.heap.push { cls := .type "frame", data := .dict #[] }) h')
    (e1 : F'.env.scope = scope) (e2 : F'.env.locals = s₂.heap.objs.size) (e3 : F'.env.cells = clos) (e4 : F'.s₀ = s₂) (e5 : F'.w₀ = w₂) : FI F' false ρ' { s₂ with heap := h', toks := s₂.toks + 1 } w₂ := by
  have keep : ∀ b o, s₂.heap.get? b = some o → h'.get? b = some o := fun b o e => (hsb.2 b (Nat.ne_of_lt (Heap.lt_size e))).trans (Heap.get?_push_of_some _ e)
  refine ⟨⟨_, _, by rw [e4]⟩, fun b o _ e => keep b o (e4 ▸ e), by rw [e5]; exact fun _ _ e => e, fun b o _ _ _ => by rw [e5], ok.keep keep, by rw [e4, e2]; exact Heap.get?_none_of_le (Nat.le_refl _), by rw [e2]; exact ok.none_size, ⟨_, by rw [e2]; exact hns, fun i x v hn hv hu => ?_⟩, fun i x kd c v hn hk hc hv hu => ?_, fun x c hx _ => ?_, fun x y c h1 h2 => ?_⟩
  · rw [e1] at hn
    rcases hcap.get hn hv hu with ⟨_, rfl, rfl⟩ | ⟨q, _⟩
    · exact ⟨.int k t, by simp [List.lookup], t, rfl⟩
    · cases q
  · rw [e1] at hn
    rcases hcap.get hn hv hu with ⟨rfl, _, _⟩ | ⟨rfl, j, hj, hr⟩
    · rcases hk with q | q <;> cases q
    · have hc' := hclos x c (e3 ▸ hc)
      obtain ⟨y, hy, ry⟩ := fi.cells j x _ c v hj (.inl rfl) hc' hr hu
      obtain ⟨_, _, _, hvis⟩ := fi.ownC x c (F.kindOf hj) hc'
      obtain ⟨o, ho⟩ := hvis rfl
      obtain ⟨o', ho', hd⟩ := hy
      rw [fi.ok.vin _ _ ho] at ho'; cases ho'
      exact ⟨y, ⟨o, keep _ _ (ok.vin _ _ (hle _ _ ho)), hd⟩, ry.mono hle⟩
  · rw [e1] at hx
    have := mem_of_lookup hx
    exact absurd rfl (hS.nocell _ this)
  · rw [e3] at h1 h2
    exact fi.apart x y c (hclos _ _ h1) (hclos _ _ h2)
theorem clo_call {fb : FuncBody} {params : Arguments} {scope : Scope} {clos : List (Str × Addr)} {qual : Str} {w w' : View} {s s' : Shared} {f : Addr} (M : Made C fb params scope clos qual w s w' s' f) {w₂ : View} {s₂ : Shared} (hle : VLe w' w₂) (ok : Ok C w₂ s₂) :
    ∃ fo c' fd, s₂.heap.get? f = some fo ∧ fo.data = .func fd ∧ fd.params = params ∧ fd.body = fb ∧ fd.scope = scope ∧ fd.closure = clos ∧ fd.globals = mainGlobals ∧ fd.builtins = builtinsNs ∧ fd.qualname = qual ∧ fd.code = .ref c' ∧ fd.defaults = .none ∧ fd.kwdefaults = .none ∧ s₂.heap.CodeRec fd.code fd.qualname := by
  obtain ⟨fo, c', oc, vs, t, h1, ⟨_, fd, h2, h3, h4, h5, h6, h7, h8, h9, h10, h11, h12⟩, h13, h14, h15⟩ := M.obj
  refine ⟨fo, c', fd, ok.vin _ _ (hle _ _ h1), h2, h3, h4, h5, h6, h7, h8, h9, h10, h11, h12, ?_⟩
  rw [h9, h10]
  exact ⟨c', oc, vs, t, rfl, ok.vin _ _ (hle _ _ h13), h14, h15⟩
theorem fnrep_lambda (G : C.Good) {params : Arguments} {body : Expr} {scope : Scope} {clos : List (Str × Addr)} {qual p : Str} {w w' : View} {s s' : Shared} {f : Addr} {Fn : Int → Option (Option (Int × Int))} (fi : FI F true ρ s w) (M : Made C (.expr body) params scope clos qual w s w' s' f)
    (hS : InnerOk scope p) (hclos : ∀ x c, clos.lookup x = some c → F.env.cells.lookup x = some c) (hfree : ∀ x, (x, NameKind.free) ∈ scope.names → (clos.lookup x).isSome = true)
    (hb : ∀ (fd : FuncData), fd.params = params → fd.defaults = .none → fd.kwdefaults = .none → ∀ x : Value, bindArgs fd ⟨[x], []⟩ = pure [(p, x)])
    (hbody : ∀ k b, Fn k = some b → ∃ ρ', CapOk F ρ p k scope.names ρ' ∧ ∀ F' : Fc C, F'.n = fnRoom - 1 → F'.env.scope = scope → (∀ x, (x, NameKind.free) ∈ scope.names → (F'.env.cells.lookup x).isSome = true) → EJ F' false ρ' body (fun v => v = BV b)) : FnRep C w' Fn (.ref f) := by
  obtain ⟨fo, c', oc, vs, t, h1, ⟨_, fd0, h2, _⟩, _⟩ := M.obj
  refine ⟨⟨f, fo, fd0, rfl, h1, h2⟩, fun k t b hFn A s₂ w₂ Q E room hle ok q => ?_⟩
  obtain ⟨fo, c', fd, g1, g2, g3, g4, g5, g6, g7, g8, g9, g10, g11, g12, g13⟩ := clo_call M hle ok
  obtain ⟨ρ', hcap, hE⟩ := hbody k b hFn
  have hnl : s₂.heap.NoLimit := G.T.nolimit.keeps ok.heap₀
  refine wpAny_call (kla_callFunE (by have := room.depth; omega) g1 g2 (by rw [g5]; exact hS.co) (by rw [g5]; exact hS.gen) g4 g13 ?_)
  rw [hb fd g3 g11 g12]
  refine wpAny_pure (wpAny_newFunctionEnv (by rw [g5]; exact hS.nocell) (fun x hx => by obtain rfl := List.mem_singleton.mp hx; rw [g5]; exact hS.par) (fun h' hns hsb => ⟨?_, ?_⟩) (by rw [g5]; exact hS.kind))
  · exact hnl.keeps fun b o e => (hsb.2 b (Nat.ne_of_lt (Heap.lt_size e))).trans (Heap.get?_push_of_some _ e)
  · refine kla_codeExpr ?_
    rw [g5, g6, g7, g8]
    let env : Env := newEnv scope s₂.heap.objs.size mainGlobals clos (fd.qualname ++ ".<locals>.") (some f) fd.code none builtinsNs
    let F' : Fc C := { A := A.deeper env, env := env, s₀ := s₂, w₀ := w₂, n := fnRoom - 1, room := Room.deeper (n := fnRoom - 1) room env, kind := hS.kind, glob := rfl, bltn := rfl, nodup := hS.nodup, nodbg := hS.nodbg }
    have fi' : FI F' false ρ' { s₂ with heap := h', toks := s₂.toks + 1 } w₂ := inner_fi fi hS hclos (fun b o e => hle _ _ (M.ext.vle _ _ e)) ok hcap hns hsb rfl rfl rfl rfl rfl
    refine hE F' rfl rfl (fun x hx => hfree x hx) _ w₂ fi' _ _ fun v x s₃ w₃ hv x₃ ok₃ rv => ?_
    subst hv
    refine q s₃ w₃ x (fi'.toExt.trans x₃) ok₃ ?_
    cases b with
    | none => exact rv
    | some pr =>
      obtain ⟨a, c⟩ := pr
      obtain ⟨ad, items, rfl, ht, y, ys, rfl, ⟨t1, rfl⟩, z, zs, rfl, ⟨t2, rfl⟩, rfl⟩ := rv
      exact ⟨ad, t1, t2, rfl, ht⟩
theorem fnrep_def (G : C.Good) {params : Arguments} {body : List Stmt} {scope : Scope} {clos : List (Str × Addr)} {qual p : Str} {w w' : View} {s s' : Shared} {f : Addr} {Fn : Int → Option (Option (Int × Int))} (fi : FI F true ρ s w) (M : Made C (.stmts body) params scope clos qual w s w' s' f)
    (hS : InnerOk scope p) (hclos : ∀ x c, clos.lookup x = some c → F.env.cells.lookup x = some c) (hfree : ∀ x, (x, NameKind.free) ∈ scope.names → (clos.lookup x).isSome = true)
    (hb : ∀ (fd : FuncData), fd.params = params → fd.defaults = .none → fd.kwdefaults = .none → ∀ x : Value, bindArgs fd ⟨[x], []⟩ = pure [(p, x)])
    (hbody : ∀ k b, Fn k = some b → ∃ ρ', CapOk F ρ p k scope.names ρ' ∧ ∀ F' : Fc C, F'.n = fnRoom - 1 → F'.env.scope = scope → (∀ x, (x, NameKind.free) ∈ scope.names → (F'.env.cells.lookup x).isSome = true) → SJ F' false ρ' body (fun _ _ => False) (fun v => v = BV b)) : FnRep C w' Fn (.ref f) := by
  obtain ⟨fo, c', oc, vs, t, h1, ⟨_, fd0, h2, _⟩, _⟩ := M.obj
  refine ⟨⟨f, fo, fd0, rfl, h1, h2⟩, fun k t b hFn A s₂ w₂ Q E room hle ok q => ?_⟩
  obtain ⟨fo, c', fd, g1, g2, g3, g4, g5, g6, g7, g8, g9, g10, g11, g12, g13⟩ := clo_call M hle ok
  obtain ⟨ρ', hcap, hE⟩ := hbody k b hFn
  have hnl : s₂.heap.NoLimit := G.T.nolimit.keeps ok.heap₀
  refine wpAny_call (codeAny_call_function (by have := room.depth; omega) g1 g2 (by rw [g5]; exact hS.co) (by rw [g5]; exact hS.gen) g4 g13 ?_)
  rw [hb fd g3 g11 g12]
  refine wpAny_pure (wpAny_newFunctionEnv (by rw [g5]; exact hS.nocell) (fun x hx => by obtain rfl := List.mem_singleton.mp hx; rw [g5]; exact hS.par) (fun h' hns hsb => ⟨?_, ?_⟩) (by rw [g5]; exact hS.kind))
  · exact hnl.keeps fun b o e => (hsb.2 b (Nat.ne_of_lt (Heap.lt_size e))).trans (Heap.get?_push_of_some _ e)
  · refine codeAny_func ?_
    rw [g5, g6, g7, g8]
    let env : Env := newEnv scope s₂.heap.objs.size mainGlobals clos (fd.qualname ++ ".<locals>.") (some f) fd.code none builtinsNs
    let F' : Fc C := { A := A.deeper env, env := env, s₀ := s₂, w₀ := w₂, n := fnRoom - 1, room := Room.deeper (n := fnRoom - 1) room env, kind := hS.kind, glob := rfl, bltn := rfl, nodup := hS.nodup, nodbg := hS.nodbg }
    have fi' : FI F' false ρ' { s₂ with heap := h', toks := s₂.toks + 1 } w₂ := inner_fi fi hS hclos (fun b o e => hle _ _ (M.ext.vle _ _ e)) ok hcap hns hsb rfl rfl rfl rfl rfl
    refine hE F' rfl rfl (fun x hx => hfree x hx) _ w₂ fi' _ _ (fun _ _ _ _ hF => hF.elim) fun v x _ _ s₃ w₃ hv fi₃ rv => ?_
    subst hv
    refine q s₃ w₃ x fi₃.toExt fi₃.ok ?_
    cases b with
    | none => exact rv
    | some pr =>
      obtain ⟨a, c⟩ := pr
      obtain ⟨ad, items, rfl, ht, y, ys, rfl, ⟨t1, rfl⟩, z, zs, rfl, ⟨t2, rfl⟩, rfl⟩ := rv
      exact ⟨ad, t1, t2, rfl, ht⟩
theorem cells_free {F : Fc C} {ρ : List V} {scope : Scope} (hcl : ∀ x, F.env.scope.names.lookup x = some NameKind.cell → (F.env.cells.lookup x).isSome = true) (hsub : ∀ x, (x, NameKind.free) ∈ scope.names → F.env.scope.names.lookup x = some .cell) :
    ∀ x, (x, NameKind.free) ∈ scope.names → (F.env.cells.lookup x).isSome = true := fun x hx => hcl x (hsub x hx)
theorem ej_lambda (G : C.Good) {params : Arguments} {body : Expr} {scope : Scope} {pos : Pos} {c P : Addr} {p : Str} {Q : V → Prop} (Fn : Int → Option (Option (Int × Int))) (hd : defaultsOf params F.env = ([], [])) (hc : F.env.code = .ref c) (ht : (c, P, F.env.qual ++ "<lambda>") ∈ C.tabs)
    (hcl : ∀ x, F.env.scope.names.lookup x = some NameKind.cell → (F.env.cells.lookup x).isSome = true) (hsub : ∀ x, (x, NameKind.free) ∈ scope.names → F.env.scope.names.lookup x = some .cell) (hS : InnerOk scope p)
    (hb : ∀ (fd : FuncData), fd.params = params → fd.defaults = .none → fd.kwdefaults = .none → ∀ x : Value, bindArgs fd ⟨[x], []⟩ = pure [(p, x)])
    (hbody : ∀ k b, Fn k = some b → ∃ ρ', CapOk F ρ p k scope.names ρ' ∧ ∀ F' : Fc C, F'.n = fnRoom - 1 → F'.env.scope = scope → (∀ x, (x, NameKind.free) ∈ scope.names → (F'.env.cells.lookup x).isSome = true) → EJ F' false ρ' body (fun v => v = BV b))
    (h : Q (.fn Fn)) : EJ F true ρ (.Lambda params body scope pos) Q := fun s w fi R E k => by
  obtain ⟨clos, e, h1, h2⟩ := closure_ok (env := F.env) (cells_free (ρ := ρ) hcl hsub)
  exact kla_eval hd (make_lambda G fi.ok e F.glob hc ht fun f w' s' M => k _ _ s' w' h M.ext M.ok (fnrep_lambda G fi M hS h1 h2 hb hbody))
theorem s1_def (G : C.Good) (i : Nat) {name : Str} {params : Arguments} {body : List Stmt} {scope : Scope} {pos : Pos} {c P : Addr} {p : Str} {N Pp} (Fn : Int → Option (Option (Int × Int))) (hn : F.env.scope.names[i]? = some (name, NameKind.local))
    (hd0 : params.defaults = []) (hk0 : params.kw_defaults = []) (ha : annTrees params none F.env = []) (hq : qualnameIn F.env name name = F.env.qual ++ name) (hc : F.env.code = .ref c) (ht : (c, P, F.env.qual ++ name) ∈ C.tabs)
    (hcl : ∀ x, F.env.scope.names.lookup x = some NameKind.cell → (F.env.cells.lookup x).isSome = true) (hsub : ∀ x, (x, NameKind.free) ∈ scope.names → F.env.scope.names.lookup x = some .cell) (hS : InnerOk scope p)
    (hb : ∀ (fd : FuncData), fd.params = params → fd.defaults = .none → fd.kwdefaults = .none → ∀ x : Value, bindArgs fd ⟨[x], []⟩ = pure [(p, x)])
    (hbody : ∀ k b, Fn k = some b → ∃ ρ', CapOk F ρ p k scope.names ρ' ∧ ∀ F' : Fc C, F'.n = fnRoom - 1 → F'.env.scope = scope → (∀ x, (x, NameKind.free) ∈ scope.names → (F'.env.cells.lookup x).isSome = true) → SJ F' false ρ' body (fun _ _ => False) (fun v => v = BV b))
    (h : N true (ρ.set i (.fn Fn))) : S1 F true ρ (.FunctionDef name params body [] none [] scope none name pos) N Pp := fun s w fi R E kn kr => by
  obtain ⟨clos, e, h1, h2⟩ := closure_ok (env := F.env) (cells_free (ρ := ρ) hcl hsub)
  refine nestDef_K hd0 hk0 ha ?_
  rw [hq]
  exact make_def G fi.ok e F.glob hc ht fun f w' s' M => fi_store (v := .fn Fn) (fi.ext M.ext M.ok) i hn (.inl rfl) (fnrep_def G fi M hS h1 h2 hb hbody) fun s'' fi' _ => kn _ _ s'' w' h fi'
end
end Mine
end
section
namespace Mine
section
variable {C : Cx} {F : Fc C} {fz : Bool} {ρ : List V}
structure Aside (C : Cx) (F : Fc C) (s : Shared) (w : View) (a : Addr) (o : Obj) : Prop where
  get : s.heap.get? a = some o
  code : NotCode o
  cell : ∀ v, o.data ≠ .cell v
  dict : ∀ es ep, o.data ≠ .dict es ep
  hid : w a = none
  new : F.s₀.heap.get? a = none
  nt : NT C a
theorem FI.aside {s : Shared} {w : View} {a : Addr} {o : Obj} {h' : Heap} {tk : Nat} (fi : FI F fz ρ s w) (x : Aside C F s w a o) (k : ∀ b y, b ≠ a → s.heap.get? b = some y → h'.get? b = some y) : FI F fz ρ { s with heap := h', toks := tk } w := by
  obtain ⟨m, hns, hm⟩ := fi.ns
  have hL : F.env.locals ≠ a := fun q => by
    obtain ⟨o', es, ep, e, hd, _⟩ := hns
    rw [q, x.get] at e; cases e; exact x.dict _ _ hd
  have hC : ∀ c v, s.heap.IsCell c v → c ≠ a := fun c v h q => by
    obtain ⟨o', e, hd⟩ := h
    rw [q, x.get] at e; cases e; exact x.cell _ hd
  refine ⟨?_, fun b y hb e => k b y (fun q => by rw [q, x.new] at e; cases e) (fi.keep b y hb e), fi.vle, fi.old, ⟨fun b y e => k b y (fun q => by rw [q, x.hid] at e; cases e) (fi.ok.vin b y e), fi.ok.top, fun t ht => ?_, fi.ok.hid⟩, fi.fresh, fi.hidL, ⟨m, ?_, hm⟩, fun i y kd c v p q r u z => ?_, fun y c p q => ?_, fi.apart⟩
  · obtain ⟨h1, t1, rfl⟩ := fi.same; exact ⟨_, _, rfl⟩
  · obtain ⟨ps, e, h1, h2⟩ := fi.ok.tabs t ht
    refine ⟨ps, k _ _ (Ne.symm (x.nt t ht)) e, h1, fun pos cv q => ?_⟩
    obtain ⟨c, o', vs, t', e1, e2, e3, e4⟩ := h2 pos cv q
    exact ⟨c, o', vs, t', e1, k _ _ (fun q' => by rw [q', x.get] at e2; cases e2; exact x.code _ _ _ e3 e4) e2, e3, e4⟩
  · obtain ⟨o', es, ep, e, r⟩ := hns
    exact ⟨o', es, ep, k _ _ hL e, r⟩
  · obtain ⟨y', e1, e2⟩ := fi.cells i y kd c v p q r u z
    exact ⟨y', IsCell.keep e1 fun o' e => k _ _ (hC _ _ e1) e, e2⟩
  · obtain ⟨h1, ⟨o', h2⟩, h3⟩ := fi.ownC y c p q
    exact ⟨h1, ⟨o', IsCell.keep h2 fun o'' e => k _ _ (hC _ _ h2) e⟩, h3⟩
theorem FI.weaken {s : Shared} {w : View} {ρ' : List V} (fi : FI F fz ρ s w) (h : ∀ (i : Nat) (v : V), ρ'[i]? = some v → v ≠ .undef → ρ[i]? = some v) : FI F fz ρ' s w := by
  obtain ⟨m, hns, hm⟩ := fi.ns
  exact ⟨fi.same, fi.keep, fi.vle, fi.old, fi.ok, fi.fresh, fi.hidL, ⟨m, hns, fun i x v a b c => hm i x v a (h i v b c) c⟩, fun i x k c v a b d e f => fi.cells i x k c v a b d (h i v e f) f, fi.ownC, fi.apart⟩
noncomputable def undefs (n : Nat) : List V := List.replicate n .undef
theorem FI.forget {s : Shared} {w : View} {n : Nat} (fi : FI F fz ρ s w) : FI F fz (undefs n) s w := fi.weaken fun i v h hv => by
  unfold undefs at h
  rw [List.getElem?_replicate] at h
  split at h
  · exact absurd (Option.some.inj h).symm hv
  · cases h
theorem Aside.ext {s s' : Shared} {w w' : View} {a : Addr} {o : Obj} (x : Aside C F s w a o) (e : Ext C w s w' s') : Aside C F s' w' a o :=
  ⟨e.keep _ _ x.nt x.get, x.code, x.cell, x.dict, (e.old _ _ x.nt x.get x.code).trans x.hid, x.new, x.nt⟩
theorem Aside.other {s : Shared} {w : View} {a b : Addr} {o : Obj} {h' : Heap} {tk : Nat} (x : Aside C F s w a o) (hab : a ≠ b) (k : ∀ c y, c ≠ b → s.heap.get? c = some y → h'.get? c = some y) : Aside C F { s with heap := h', toks := tk } w a o :=
  ⟨k _ _ hab x.get, x.code, x.cell, x.dict, x.hid, x.new, x.nt⟩
noncomputable def ifsTree (ifs : List Expr) (env : Env) : Sem Bool := forIn ifs true fun c r => if r = true then do let ok ← isTrue c env (eval c env); pure (ForInStep.yield ok) else pure (ForInStep.yield r)
theorem compLoop_own {prog : Program} {w : World} {A : Around} {R : Result → Shared → Prop} {s : Shared} {elt target iter : Expr} {ifs : List Expr} {scope : Scope} {pos : Pos} {it acc : Value} {env : Env} (I : Nat → Shared → Prop)
    (turn : ∀ n s, I n s → wpAny (model prog w) A (pyNext it) (fun r s₁ => match r with
      | none => R (.ok .next) s₁
      | some v => wpAny (model prog w) A (letOwnedTupleGo target it v) (fun _ s₁' => wpAny (model prog w) A (assign target env v) (fun _ s₂ =>
          wpAny (model prog w) A (ifsTree ifs env) (fun ok s₃ =>
            if ok = true then wpAny (model prog w) A (eval elt env) (fun x s₄ =>
              wpAny (model prog w) A (call (.builtin "list.append") [acc, x]) (fun _ s₅ => ∃ m, m < n ∧ I m s₅) (notedBy (model prog w) A env fun e s' => R (.error e) s') s₄) (notedBy (model prog w) A env fun e s' => R (.error e) s') s₃
            else ∃ m, m < n ∧ I m s₃) (notedBy (model prog w) A env fun e s' => R (.error e) s') s₂) (notedBy (model prog w) A env fun e s' => R (.error e) s') s₁') (notedBy (model prog w) A env fun e s' => R (.error e) s') s₁) (notedBy (model prog w) A env fun e s' => R (.error e) s') s)
    (n : Nat) (h : I n s) : codeAny (model prog w) A (.compLoop (.ListComp elt [⟨target, iter, ifs, 0⟩] scope pos) 0 it acc env) R s := by
  refine codeAny_loop rfl I (fun n s hI => ?_) n h
  show wpAny _ A ((compTurn (.ListComp elt [⟨target, iter, ifs, 0⟩] scope pos) 0 it acc env).onRaise (fun x => do noteFrame x env; theTreesLotGoes x)) _ _ s
  refine wpAny_noted ?_
  rw [compTurn_list]
  refine wpAny_bind (wpAny_standAt (wpAny_bind (wpAny_mono (turn n s hI) (fun r s₁ h₁ => ?_) fun _ _ h' => h')))
  cases r with
  | none => exact wpAny_pure h₁
  | some v =>
    refine wpAny_bind (wpAny_mono h₁ (fun _ s₁' h₁' => ?_) fun _ _ h' => h')
    refine wpAny_bind (wpAny_mono h₁' (fun _ s₂ h₂ => wpAny_bind (wpAny_mono h₂ (fun ok s₃ h₃ => ?_) fun _ _ h' => h')) fun _ _ h' => h')
    cases ok with
    | false => exact wpAny_pure ⟨rfl, h₃⟩
    | true =>
      exact wpAny_bind (wpAny_bind (wpAny_mono h₃ (fun x s₄ h₄ => wpAny_bind (wpAny_mono h₄ (fun _ s₅ h₅ => wpAny_pure (wpAny_pure ⟨rfl, h₅⟩)) fun _ _ h' => h')) fun _ _ h' => h'))
noncomputable def TargetJ (F : Fc C) (fz : Bool) (ρ : List V) : Expr → V → (List V → Prop) → Prop
  | .Name x _, v, K => ∃ i k, F.env.scope.names[i]? = some (x, k) ∧ Storable F fz x k ∧ K (ρ.set i v)
  | .Tuple elts _ _, .tup us, K => ∃ is, TNames F fz elts is ∧ us.length = is.length ∧ K (setAll ρ is us)
  | _, _, _ => False
theorem KeepD.aside {s s' : Shared} {w : View} {a : Addr} {o : Obj} (x : Aside C F s w a o) (k : KeepD s s') : Aside C F s' w a o := ⟨k _ _ x.cell x.dict x.get, x.code, x.cell, x.dict, x.hid, x.new, x.nt⟩
theorem letgo_tupleiter {elts : List Expr} {x1 : Nat} {pos : Pos} {I l T : Addr} {i : Nat} {s : Shared} {A : Around} {Q : Unit → Shared → Prop} {E : Value → Shared → Prop} (hit : s.heap.IsTupleIter I l i) (hQ : Q () s) :
    wpAny (model C.prog C.wd) A (letOwnedTupleGo (.Tuple elts x1 pos) (.ref I) (.ref T)) Q E s := by
  obtain ⟨o, ho, hc, hd⟩ := hit
  unfold letOwnedTupleGo
  refine wpAny_bind (wpAny_load ho ?_)
  rw [hc, hd]
  show wpAny _ A (if (["enumerate", "zip", "dict_itemiterator", "dict_reverseitemiterator", "odict_iterator", "itertools.zip_longest", "itertools.pairwise"].contains "tuple_iterator" && _) = true then _ else _) _ _ _
  rw [if_neg (by rw [show (["enumerate", "zip", "dict_itemiterator", "dict_reverseitemiterator", "odict_iterator", "itertools.zip_longest", "itertools.pairwise"].contains "tuple_iterator") = false from by decide]; simp)]
  exact wpAny_pure hQ
theorem wp_target {target : Expr} {v : V} {x : Value} {K : List V → Prop} {s : Shared} {w : View} {I l : Addr} {i : Nat} (fi : FI F fz ρ s w) (rv : Rep C w v x) (h : TargetJ F fz ρ target v K)
    (hit : s.heap.IsListIter I l i ∨ s.heap.IsTupleIter I l i) {R : Unit → Shared → Prop} {E E' : Value → Shared → Prop}
    (k : ∀ ρ' s', K ρ' → FI F fz ρ' s' w → KeepD s s' → R () s') :
    wpAny (model C.prog C.wd) F.A (letOwnedTupleGo target (.ref I) x) (fun _ s' => wpAny (model C.prog C.wd) F.A (assign target F.env x) R E s') E' s := by
  unfold TargetJ at h
  split at h
  · obtain ⟨j, kd, hn, hk, hK⟩ := h
    have e : ∀ y p, letOwnedTupleGo (.Name y p) (.ref I) x = pure () := fun _ _ => rfl
    rw [e]
    exact wpAny_pure (wpAny_assign_Name (fi_store fi j hn hk rv fun s' fi' kd => k _ s' hK fi' kd))
  · obtain ⟨is, ht, hl, hK⟩ := h
    obtain ⟨T, items, rfl, hT, hr⟩ := id rv
    rcases hit with hit | hit
    · exact wpAny_letOwnedTupleGo_listiter hit (wp_unpack ht fi rv hl fun s' fi' kd => k _ s' hK fi' kd)
    · exact letgo_tupleiter hit (wp_unpack ht fi rv hl fun s' fi' kd => k _ s' hK fi' kd)
  · exact h.elim
noncomputable def TurnJ (F : Fc C) (fz : Bool) (ρ : List V) (ifs : List Expr) (elt : Expr) (r : Option V) : Prop := match ifs with
  | [] => EJ F fz ρ elt (fun o => r = some o)
  | [t] => TJ F fz ρ t (fun b => if b = true then EJ F fz ρ elt (fun o => r = some o) else r = none)
  | _ => False
structure CompOk (scope : Scope) : Prop where
  kind : scope.kind = .function
  nodup : (scope.names.map (·.1)).Nodup
  nodbg : ∀ x ∈ scope.names.map (·.1), (x == ("__debug__" : Str)) = false ∧ (x == ("__classdict__" : Str)) = false
  nofree : ∀ x ∈ scope.names, x.2 ≠ .free
  nocell : ∀ x ∈ scope.names, x.2 ≠ .cell
noncomputable def checkComp (scope : Scope) : Bool := (scope.kind == .function) && decide (scope.names.map (·.1)).Nodup && ((scope.names.map (·.1)).all fun x => !(x == ("__debug__" : Str)) && !(x == ("__classdict__" : Str))) && scope.names.all fun x => !(x.2 == .free) && !(x.2 == .cell)
theorem compOk_of {scope : Scope} (h : checkComp scope = true) : CompOk scope := by
  unfold checkComp at h
  simp only [Bool.and_eq_true, beq_iff_eq, decide_eq_true_eq] at h
  obtain ⟨⟨⟨h1, h2⟩, h3⟩, h4⟩ := h
  refine ⟨h1, h2, fun x hx => by simpa using List.all_eq_true.mp h3 x hx, fun x hx => ?_, fun x hx => ?_⟩
  · have := List.all_eq_true.mp h4 x hx; simp at this; exact this.1
  · have := List.all_eq_true.mp h4 x hx; simp at this; exact this.2
theorem Reps.snoc {w : View} {v : V} {x : Value} (hx : Rep C w v x) : ∀ {vs : List V} {xs : List Value}, Reps C w vs xs → Reps C w (vs ++ [v]) (xs ++ [x])
  | [], _, h => by rw [show _ = [] from h]; exact ⟨x, [], rfl, hx, rfl⟩
  | _ :: _, _, h => by obtain ⟨y, ys, rfl, a, b⟩ := h; exact ⟨y, ys ++ [x], rfl, a, Reps.snoc hx b⟩
noncomputable def lobj (its : Array Value) (n : Nat) : Obj := { cls := .type "list", data := .seq its n }
noncomputable def iterObj (l : Addr) (i : Nat) : Obj := { cls := .type "list_iterator", data := .fields #[.ref l, .int i 0] }
structure CompInv (F : Fc C) (l I D : Addr) (vs : List V) (items : List Value) (g : V → Option V) (i : Nat) (s : Shared) (w : View) : Prop where
  fi : FI F false (undefs F.env.scope.names.length) s w
  src : LstV w l items
  srcR : Reps C w vs items
  it : ∃ o, Aside C F s w I o ∧ o.cls = .type "list_iterator" ∧ o.data = .fields #[.ref l, .int i 0]
  acc : ∃ outs n, Aside C F s w D (lobj outs n) ∧ Reps C w ((vs.take i).filterMap g) outs.toList ∧ outs.size ≤ i
  ne : I ≠ D
  le : i ≤ vs.length
theorem comp_turns (G : C.Good) {target iter elt : Expr} {ifs : List Expr} {scope : Scope} {pos : Pos} {l I D : Addr} {vs : List V} {items : List Value} {g : V → Option V} {R : Result → Shared → Prop} (hlen : vs.length ≤ 1000)
    (hturn : ∀ v ∈ vs, TargetJ F false (undefs F.env.scope.names.length) target v fun ρ' => TurnJ F false ρ' ifs elt (g v))
    (hend : ∀ s' w', CompInv F l I D vs items g vs.length s' w' → ∀ h' tk, (∀ b o, b ≠ I → s'.heap.get? b = some o → h'.get? b = some o) → R (.ok .next) { s' with heap := h', toks := tk }) {s : Shared} {w : View} (h : CompInv F l I D vs items g 0 s w) :
    codeAny (model C.prog C.wd) F.A (.compLoop (.ListComp elt [⟨target, iter, ifs, 0⟩] scope pos) 0 (.ref I) (.ref D) F.env) R s := by
  refine compLoop_own (fun n s' => ∃ i w', n = vs.length - i ∧ CompInv F l I D vs items g i s' w') (fun n s' hI => ?_) vs.length ⟨0, w, by simp, h⟩
  obtain ⟨i, w', rfl, V⟩ := hI
  obtain ⟨oI, aI, cI, dI⟩ := V.it
  have hit : s'.heap.IsListIter I l i := ⟨oI, aI.get, cI, dI⟩
  have hl : s'.heap.IsList l items.toArray := V.src.of V.fi.ok
  have hil := V.srcR.length
  by_cases hi : i < vs.length
  · have hi' : i < items.length := by omega
    obtain ⟨x, hx, rx⟩ := V.srcR.get (List.getElem?_eq_getElem hi)
    refine wpAny_pyNext_list_item hit hl (x := x) (by simpa using hx) fun h₁ hit₁ hs₁ => ?_
    have k₁ : ∀ b y, b ≠ I → s'.heap.get? b = some y → h₁.get? b = some y := fun b y hb e => (hs₁.2 b hb).trans e
    have fi₁ : FI F false (undefs F.env.scope.names.length) { s' with heap := h₁ } w' := V.fi.aside (tk := s'.toks) aI k₁
    obtain ⟨oI', gI', cI', dI'⟩ := id hit₁
    have aI₁ : Aside C F { s' with heap := h₁ } w' I oI' := ⟨gI', (fun vs' y t q => by rw [dI'] at q; cases q; intro hh; cases hh), (fun v q => by rw [dI'] at q; cases q), (fun es ep q => by rw [dI'] at q; cases q), aI.hid, aI.new, aI.nt⟩
    obtain ⟨outs, nD, aD, rD, szD⟩ := V.acc
    have aD₁ : Aside C F { s' with heap := h₁ } w' D (lobj outs nD) := aD.other (tk := s'.toks) (Ne.symm V.ne) k₁
    refine wp_target (K := fun ρ' => TurnJ F false ρ' ifs elt (g vs[i])) fi₁ rx (hturn _ (List.getElem_mem hi)) (.inl hit₁) fun ρ' s₂ hT fi₂ kd₂ => ?_
    have aI₂ := kd₂.aside aI₁
    have aD₂ := kd₂.aside aD₁
    have next : ∀ s₃ w₃, Ext C w' s₂ w₃ s₃ → Ok C w₃ s₃ → g vs[i] = none → ∃ m, m < vs.length - i ∧ ∃ i₁ w₁, m = vs.length - i₁ ∧ CompInv F l I D vs items g i₁ s₃ w₁ := fun s₃ w₃ x₃ ok₃ hg => by
      refine ⟨vs.length - (i + 1), by omega, i + 1, w₃, rfl, (fi₂.ext x₃ ok₃).forget, V.src.mono x₃.vle, V.srcR.mono x₃.vle, ⟨oI', aI₂.ext x₃, cI', dI'⟩, ⟨outs, nD, aD₂.ext x₃, ?_, by omega⟩, V.ne, hi⟩
      rw [List.take_add_one, List.getElem?_eq_getElem hi, Option.toList_some, List.filterMap_append, List.filterMap_cons, hg, List.filterMap_nil, List.append_nil]
      exact rD.mono x₃.vle
    have step : ∀ s₃ w₃, Ext C w' s₂ w₃ s₃ → Ok C w₃ s₃ → EJ F false ρ' elt (fun o => g vs[i] = some o) → wpAny (model C.prog C.wd) F.A (eval elt F.env) (fun x s₄ =>
        wpAny (model C.prog C.wd) F.A (call (.builtin "list.append") [.ref D, x]) (fun _ s₅ => ∃ m, m < vs.length - i ∧ ∃ i₁ w₁, m = vs.length - i₁ ∧ CompInv F l I D vs items g i₁ s₅ w₁) (notedBy (model C.prog C.wd) F.A F.env fun e s' => R (.error e) s') s₄) (notedBy (model C.prog C.wd) F.A F.env fun e s' => R (.error e) s') s₃ := fun s₃ w₃ x₃ ok₃ hE => by
      refine hE s₃ w₃ (fi₂.ext x₃ ok₃) _ _ fun o y s₄ w₄ hg x₄ ok₄ ry => ?_
      have x₂₄ := x₃.trans x₄
      have aI₄ := aI₂.ext x₂₄
      have aD₄ := aD₂.ext x₂₄
      refine append_at (its := outs) (n := nD) aD₄.get (fun h₅ hs₅ gD' => ?_) (by rw [sizeLine_eq]; omega)
      have k₅ : ∀ b y, b ≠ D → s₄.heap.get? b = some y → h₅.get? b = some y := fun b y hb e => (hs₅.2 b hb).trans e
      have fi₄ : FI F false (undefs F.env.scope.names.length) s₄ w₄ := (fi₂.ext x₂₄ ok₄).forget
      have fi₅ : FI F false (undefs F.env.scope.names.length) { s₄ with heap := h₅ } w₄ := fi₄.aside (tk := s₄.toks) aD₄ k₅
      refine ⟨vs.length - (i + 1), by omega, i + 1, w₄, rfl, fi₅, V.src.mono x₂₄.vle, V.srcR.mono x₂₄.vle, ⟨oI', aI₄.other (tk := s₄.toks) V.ne k₅, cI', dI'⟩, ⟨outs.push y, nD + 1, ⟨gD', (fun vs' y t q => by cases q), (fun v q => by cases q), (fun es ep q => by cases q), aD₄.hid, aD₄.new, aD₄.nt⟩, ?_, by rw [Array.size_push]; omega⟩, V.ne, hi⟩
      rw [List.take_add_one, List.getElem?_eq_getElem hi, Option.toList_some, List.filterMap_append, List.filterMap_cons, hg, List.filterMap_nil, Array.toList_push]
      exact (rD.mono x₂₄.vle).snoc ry
    unfold TurnJ at hT
    split at hT
    · refine wpAny_tests_nil ?_
      rw [if_pos rfl]
      exact step s₂ w' (Ext.refl ..) fi₂.ok hT
    · refine wpAny_tests_one ?_
      refine hT s₂ w' fi₂ _ _ fun b s₃ w₃ hb x₃ ok₃ => ?_
      cases b
      · rw [if_neg Bool.false_ne_true]; exact next s₃ w₃ x₃ ok₃ hb
      · rw [if_pos rfl]; exact step s₃ w₃ x₃ ok₃ hb
    · exact hT.elim
  · have he : i = vs.length := by have := V.le; omega
    subst he
    refine wpAny_pyNext_list_end F.room.hand hit hl (by simp; omega) fun h₁ hx => ?_
    exact hend s' w' V h₁ s'.toks hx
end
end Mine
end
section
namespace Mine
section
variable {C : Cx} {F : Fc C} {fz : Bool} {ρ : List V}
noncomputable def LstQ (Q : List V → Prop) : V → Prop
  | .lst vs => Q vs
  | _ => False
theorem wp_listcomp (G : C.Good) {target iter elt : Expr} {ifs : List Expr} {scope : Scope} {pos : Pos} {Q : List V → Prop} (hS : CompOk scope) (hs : ∀ x, foldedSetIterable iter F.env x = pure x)
    (h : EJ F fz ρ iter (LstQ fun vs => vs.length ≤ 1000 ∧ ∃ g : V → Option V, (∀ F' : Fc C, F'.n = F.n → F'.env.scope = scope → ∀ v ∈ vs, TargetJ F' false (undefs scope.names.length) target v fun ρ' => TurnJ F' false ρ' ifs elt (g v)) ∧ Q (vs.filterMap g))) {s : Shared} {w : View} (fi : FI F fz ρ s w) {R E : Value → Shared → Prop}
    (kk : ∀ us s' w' D outs n, Q us → Ext C w s w' s' → Ok C w' s' → s'.heap.get? D = some (lobj outs n) → w' D = none → s.heap.get? D = none → NT C D → Reps C w' us outs.toList → R (.ref D) s') :
    wpAny (model C.prog C.wd) F.A (eval (.ListComp elt [⟨target, iter, ifs, 0⟩] scope pos) F.env) R E s := by
  refine wpAny_ListComp hS.nofree hS.kind (fun x hx hk => ?_) (h s w fi _ E fun v x s₁ w₁ h₁ x₁ ok₁ rv => ?_) hs
  · obtain ⟨i, hi⟩ := List.getElem?_of_mem hx
    obtain ⟨n, k⟩ := x
    subst hk
    exact lookup_of_get hS.nodup hi
  cases v <;> first | exact h₁.elim | skip
  rename_i vs
  obtain ⟨hlen, g, hturn, hQ⟩ := h₁
  obtain ⟨l, items, rfl, hl, hr⟩ := rv
  have hll : s₁.heap.IsList l items.toArray := hl.of ok₁
  refine wpAny_pyIter_list hll ?_
  let I := s₁.heap.objs.size
  let H₂ := s₁.heap.push (iterObj l 0)
  have szH₂ : H₂.objs.size = I + 1 := Heap.size_push ..
  refine wpAny_newList ?_
  let D := H₂.objs.size
  let H₃ := H₂.push (lstObj [])
  have szH₃ : H₃.objs.size = D + 1 := Heap.size_push ..
  refine wpAny_newFunctionEnv (fun x hx => hS.nocell x hx) (fun x hx => nomatch hx) (fun h₄ hns hsb => ?_) hS.kind
  let L := H₃.objs.size
  -- the frame of the block
  let env : Env := newEnv scope L F.env.globals [] F.env.qual none .none (some F.env) 0
  let F' : Fc C := { A := F.A, env := env, s₀ := s₁, w₀ := w₁, n := F.n, room := F.room, kind := hS.kind, glob := F.glob, bltn := F.bltn, nodup := hS.nodup, nodbg := hS.nodbg }
  have hID : I < D := by show I < H₂.objs.size; omega
  have hDL : D < L := by show D < H₃.objs.size; omega
  have none₁ : ∀ b, I ≤ b → s₁.heap.get? b = none := fun b hb => Heap.get?_none_of_le hb
  have wnone : ∀ b, I ≤ b → w₁ b = none := fun b hb => by
    cases q : w₁ b with
    | none => rfl
    | some o => have := ok₁.vin _ _ q; rw [none₁ b hb] at this; cases this
  have keep₃ : ∀ b o, s₁.heap.get? b = some o → H₃.get? b = some o := fun b o e => Heap.get?_push_of_some _ (Heap.get?_push_of_some _ e)
  have keep₄ : ∀ b o, H₃.get? b = some o → h₄.get? b = some o := fun b o e => (hsb.2 b (Nat.ne_of_lt (Heap.lt_size e))).trans (Heap.get?_push_of_some _ e)
  have gI : H₃.get? I = some (iterObj l 0) := Heap.get?_push_of_some _ (Heap.get?_push_size s₁.heap (o := iterObj l 0) rfl)
  have gD : H₃.get? D = some (lstObj []) := Heap.get?_push_size H₂ (o := lstObj []) rfl
  have nt : ∀ b, I ≤ b → NT C b := fun b hb t ht q => by
    obtain ⟨ps, e, _⟩ := ok₁.tabs t ht
    rw [← q, none₁ b hb] at e; cases e
  have ok₄ : Ok C w₁ { s₁ with heap := h₄, toks := s₁.toks + 0 } := ok₁.keep fun b o e => keep₄ _ _ (keep₃ _ _ e)
  have fi₄ : FI F' false (undefs F'.env.scope.names.length) { s₁ with heap := h₄, toks := s₁.toks + 0 } w₁ := by
    refine ⟨⟨_, _, rfl⟩, fun b o _ e => keep₄ _ _ (keep₃ _ _ e), fun _ _ e => e, fun _ _ _ _ _ => rfl, ok₄, none₁ L (by omega), wnone L (by omega), ⟨_, hns, fun i x v _ hv hu => ?_⟩, (fun i x kd c v _ _ hc => by cases hc), (fun x c _ hc => by cases hc), (fun x y c h1 => by cases h1)⟩
    unfold undefs at hv
    rw [List.getElem?_replicate] at hv
    split at hv
    · exact absurd (Option.some.inj hv).symm hu
    · cases hv
  have V₄ : CompInv F' l I D vs items g 0 { s₁ with heap := h₄, toks := s₁.toks + 0 } w₁ :=
    ⟨fi₄, hl, hr, ⟨_, ⟨keep₄ _ _ gI, (fun vs' y t q => by cases q; intro hh; cases hh), (fun v q => by cases q), (fun es ep q => by cases q), wnone I (Nat.le_refl _), none₁ I (Nat.le_refl _), nt I (Nat.le_refl _)⟩, rfl, rfl⟩,
      ⟨#[], 0, ⟨keep₄ _ _ gD, (fun vs' y t q => by cases q), (fun v q => by cases q), (fun es ep q => by cases q), wnone D (by omega), none₁ D (by omega), nt D (by omega)⟩, rfl, Nat.zero_le _⟩, Nat.ne_of_lt hID, Nat.zero_le _⟩
  have hit₄ : ({ s₁ with heap := h₄, toks := s₁.toks + 0 } : Shared).heap.IsListIter I l 0 := ⟨_, keep₄ _ _ gI, rfl, rfl⟩
  -- the end
  have loop : codeAny (model C.prog C.wd) F.A (.compLoop (.ListComp elt [⟨target, iter, ifs, 0⟩] scope pos) 0 (.ref I) (.ref D) env)
      (fun r s' => ∃ m, s'.heap.Ns L m ∧ ∀ h', Heap.SameBut L s'.heap h' → match r with | .ok _ => R (.ref D) { s' with heap := h' } | .error x => wpAny (model C.prog C.wd) F.A (passOn "comprehension.variables-let-go" x { env with scope := scope }) R E { s' with heap := h' }) { s₁ with heap := h₄, toks := s₁.toks + 0 } := by
    refine comp_turns (F := F') G hlen (hturn F' rfl rfl) (fun s' w' V h' tk k => ?_) V₄
    obtain ⟨oI, aI, cI, dI⟩ := V.it
    have fi' : FI F' false (undefs F'.env.scope.names.length) { s' with heap := h', toks := tk } w' := V.fi.aside (tk := tk) aI k
    obtain ⟨m, hns', _⟩ := fi'.ns
    refine ⟨m, hns', fun h₆ hs₆ => ?_⟩
    obtain ⟨outs, nD, aD, rD, _⟩ := V.acc
    have aD' : Aside C F' { s' with heap := h', toks := tk } w' D (lobj outs nD) := aD.other (tk := tk) (Ne.symm V.ne) k
    have hDl : D ≠ L := Nat.ne_of_lt hDL
    have hL0 : s₁.heap.get? L = none := none₁ L (by omega)
    have hLw : w' L = none := fi'.hidL
    have k₆ : ∀ b o, b ≠ L → h'.get? b = some o → h₆.get? b = some o := fun b o hb e => (hs₆.2 b hb).trans e
    have gD6 : h₆.get? D = some (lobj outs nD) := k₆ _ _ hDl aD'.get
    have ok' := fi'.ok
    refine kk (vs.filterMap g) _ w' D outs nD hQ ?_ ?_ gD6 aD'.hid ?_ (nt D (by omega)) ?_
    · refine x₁.trans ⟨?_, fun b o hb e => k₆ _ _ (fun q => by rw [q, hL0] at e; cases e) (fi'.keep b o hb e), fun b o e => fi'.vle b o e, fun b o hb e hc => fi'.old b o hb e hc⟩
      obtain ⟨h1, t1, e1⟩ := fi'.same
      have e2 : ({ s' with heap := h', toks := tk } : Shared) = { s₁ with heap := h1, toks := t1 } := e1
      refine ⟨h₆, tk, ?_⟩
      show ({ s' with heap := h₆, toks := tk } : Shared) = _
      have e3 := congrArg (fun z : Shared => ({ z with heap := h₆, toks := tk } : Shared)) e2
      exact e3
    · have NTL : NT C L := nt L (by omega)
      refine ⟨fun b o e => k₆ _ _ (fun q => by rw [q, hLw] at e; cases e) (ok'.vin _ _ e), ok'.top, fun t ht => ?_, ok'.hid⟩
      obtain ⟨ps, e, h1, h2⟩ := ok'.tabs t ht
      refine ⟨ps, k₆ _ _ (Ne.symm (NTL t ht)) e, h1, fun p cv q => ?_⟩
      obtain ⟨c, o, vs', t', e1, e2, e3, e4⟩ := h2 p cv q
      refine ⟨c, o, vs', t', e1, k₆ _ _ (fun q' => ?_) e2, e3, e4⟩
      obtain ⟨oL, es, ep, eL, dL, _⟩ := hns'
      have eL' : ({ s' with heap := h', toks := tk } : Shared).heap.get? c = some oL := by rw [q']; exact eL
      rw [e2] at eL'; cases eL'; rw [e3] at dL; cases dL
    · cases q : s.heap.get? D with
      | none => rfl
      | some o => have := x₁.keep _ _ (nt D (by omega)) q; rw [none₁ D (by omega)] at this; cases this
    · have := rD
      rw [List.take_length] at this
      exact this
  refine codeAny_compStart_list loop ?_
  exact wpAny_pyIter_listiter hit₄ loop
theorem ej_listcomp (G : C.Good) {target iter elt : Expr} {ifs : List Expr} {scope : Scope} {pos : Pos} {Q : V → Prop} (hS : CompOk scope) (hs : ∀ x, foldedSetIterable iter F.env x = pure x)
    (h : EJ F fz ρ iter (LstQ fun vs => vs.length ≤ 1000 ∧ ∃ g : V → Option V, (∀ F' : Fc C, F'.n = F.n → F'.env.scope = scope → ∀ v ∈ vs, TargetJ F' false (undefs scope.names.length) target v fun ρ' => TurnJ F' false ρ' ifs elt (g v)) ∧ Q (.lst (vs.filterMap g)))) :
    EJ F fz ρ (.ListComp elt [⟨target, iter, ifs, 0⟩] scope pos) Q := fun s w fi R E kk =>
  wp_listcomp (Q := fun us => Q (.lst us)) G hS hs h fi fun us s' w' D outs n hQ x ok gD hid hnew hnt hr => by
    have lput : VLe w' (put w' D (lobj outs n)) := VLe.put hid
    refine kk (.lst us) (.ref D) s' (put w' D (lobj outs n)) hQ ⟨x.same, x.keep, fun b o e => lput _ _ (x.vle b o e), fun b o hb e hc => ?_⟩ ⟨fun b o e => ?_, fun b o e => lput _ _ (ok.top b o e), ok.tabs, fun t ht => ?_⟩ ⟨D, outs.toList, rfl, ⟨_, put_self .., rfl, n, by simp [lobj]⟩, hr.mono lput⟩
    · rw [put_ne (fun q => by rw [q, hnew] at e; cases e)]; exact x.old b o hb e hc
    · by_cases hb : b = D
      · subst hb; rw [put_self] at e; cases e; exact gD
      · rw [put_ne hb] at e; exact ok.vin _ _ e
    · rw [put_ne (Ne.symm (hnt t ht))]; exact ok.hid t ht
end
end Mine
end
section
namespace Mine
section
variable {C : Cx} {F : Fc C} {ρ : List V}
noncomputable abbrev Inv := Shared → View → Prop
noncomputable def SX (F : Fc C) (ρ : List V) (J : Inv) (sts : List Stmt) (N : Inv → List V → Prop) (P : V → Prop) : Prop :=
  ∀ s w, FI F false ρ s w → J s w → ∀ (R : Flow → Shared → Prop) (E : Value → Shared → Prop),
    (∀ J' ρ' s' w', N J' ρ' → FI F false ρ' s' w' → J' s' w' → R .next s') → (∀ v x fz' ρ' s' w', P v → FI F fz' ρ' s' w' → Rep C w' v x → R (.ret x) s') →
    wpAny (model C.prog C.wd) F.A (execs sts F.env) R E s
noncomputable def X1 (F : Fc C) (ρ : List V) (J : Inv) (st : Stmt) (N : Inv → List V → Prop) (P : V → Prop) : Prop :=
  ∀ s w, FI F false ρ s w → J s w → ∀ (R : Flow → Shared → Prop) (E : Value → Shared → Prop),
    (∀ J' ρ' s' w', N J' ρ' → FI F false ρ' s' w' → J' s' w' → R .next s') → (∀ v x fz' ρ' s' w', P v → FI F fz' ρ' s' w' → Rep C w' v x → R (.ret x) s') →
    wpAny (model C.prog C.wd) F.A (exec st F.env) R E s
theorem sx_nil {J N P} (h : N J ρ) : SX F ρ J [] N P := fun s w fi j R E kn kr => wpAny_execs_nil (kn _ _ s w h fi j)
theorem sx_cons {J st sts N P} (h : X1 F ρ J st (fun J' ρ' => SX F ρ' J' sts N P) P) : SX F ρ J (st :: sts) N P := fun s w fi j R E kn kr =>
  wpAny_execs_cons (h s w fi j _ E (fun J' ρ' s' w' hn fi' j' => hn s' w' fi' j' R E kn kr) fun v x fz' ρ' s' w' hp fi' rv => kr v x fz' ρ' s' w' hp fi' rv)
structure Stable (C : Cx) (J : Inv) : Prop where
  ext : ∀ s w s' w', J s w → Ext C w s w' s' → J s' w'
  keep : ∀ s s' w, J s w → KeepD s s' → J s' w
theorem stable_true : Stable C (fun _ _ => True) := ⟨fun _ _ _ _ _ _ => trivial, fun _ _ _ _ _ => trivial⟩
theorem x1_if {J t b o pos N P} (hJ : Stable C J) (h : TJ F false ρ t fun c => if c = true then SX F ρ J b N P else SX F ρ J o N P) : X1 F ρ J (.If t b o pos) N P := fun s w fi j R E kn kr =>
  wpAny_If (h s w fi _ E fun c s₁ w₁ hc x₁ ok₁ => by cases c <;> exact hc s₁ w₁ (fi.ext x₁ ok₁) (hJ.ext _ _ _ _ j x₁) R E kn kr)
theorem x1_tup2 (i j : Nat) {J x y p q n tp value pos N P} (hJ : Stable C J) (hn : F.env.scope.names[i]? = some (x, NameKind.local)) (hn' : F.env.scope.names[j]? = some (y, NameKind.local)) (hij : i ≠ j)
    (hs : swapsWithSole [.Tuple [.Name x p, .Name y q] n tp] value pos.line F.env = pure false) (hc : constTup value = false)
    (h : EJ F false ρ value (TupQ 2 fun vs => N J (setAll ρ [i, j] vs))) : X1 F ρ J (.Assign [.Tuple [.Name x p, .Name y q] n tp] value pos) N P := by
  have ht : TNames F false [.Name x p, .Name y q] [i, j] := .cons hn (.inl rfl) (.cons hn' (.inl rfl) .nil)
  rcases swapped2 (n := n) (tp := tp) (p := p) (q := q) (x := x) (y := y) (env := F.env) hc with hw | hw
  · intro s w fi jj R E kn kr
    refine Assign_Tuple (h s w fi _ E fun v y s₁ w₁ h₁ x₁ ok₁ rv => ?_) hs hw
    cases v <;> first | exact h₁.elim | skip
    exact wp_unpack ht (fi.ext x₁ ok₁) rv h₁.1 fun s' fi' kd => kn _ _ s' w₁ h₁.2 fi' (hJ.keep _ _ _ (hJ.ext _ _ _ _ jj x₁) kd)
  · intro s w fi jj R E kn kr
    refine Assign_Tuple_swapped (h s w fi _ E fun v u s₁ w₁ h₁ x₁ ok₁ rv => ?_) hs hw
    cases v <;> first | exact h₁.elim | skip
    rename_i vs
    obtain ⟨hl, hN⟩ := h₁
    obtain ⟨a, items, rfl, hT, hr⟩ := rv
    have fi₁ := fi.ext x₁ ok₁
    have j₁ := hJ.ext _ _ _ _ jj x₁
    have hlen : [x, y].length = items.toArray.size := by rw [List.size_toArray, hr.length, hl]; rfl
    rw [hlen]
    refine wpAny_unpackItems_tuple F.room.hand (hT.of' fi₁.ok) fun h' hx => ?_
    have keep : ∀ b o, s₁.heap.get? b = some o → h'.get? b = some o := fun b o e => hx b o (Nat.ne_of_lt (Heap.lt_size e)) e
    have fi' : FI F false ρ { s₁ with heap := h' } w₁ := fi₁.ext (Ext.of_keep (tk := s₁.toks) keep) (fi₁.ok.keep (tk := s₁.toks) keep)
    have j₂ : J { s₁ with heap := h' } w₁ := hJ.keep _ _ _ j₁ (KeepD.of (tk := s₁.toks) keep)
    match vs, hl, hr, hN with
    | [v1, v2], _, hr, hN =>
      obtain ⟨y1, _, rfl, r1, y2, _, rfl, r2, rfl⟩ := hr
      show wpAny _ _ (do holding [y1] (bindName F.env y y2); do holding [] (bindName F.env x y1); pure ()) _ _ _
      refine wpAny_bind (wpAny_holding (wpAny_bindName (fi_store fi' j hn' (.inl rfl) r2 fun s' fi₂ k₂ => wpAny_bind (wpAny_holding (wpAny_bindName (fi_store fi₂ i hn (.inl rfl) r1 fun s'' fi₃ k₃ => wpAny_pure ?_))))))
      refine kn _ _ s'' w₁ hN ?_ (hJ.keep _ _ _ (hJ.keep _ _ _ j₂ k₂) k₃)
      show FI F false ((ρ.set i v1).set j v2) s'' w₁
      rw [List.set_comm _ _ hij]; exact fi₃
noncomputable def LB (F : Fc C) (a : Addr) (vs : List V) : Inv := fun s w => ∃ its n, Aside C F s w a (lobj its n) ∧ Reps C w vs its.toList
theorem lobj_aside {s : Shared} {w : View} {a : Addr} {its : Array Value} {n : Nat} (h1 : s.heap.get? a = some (lobj its n)) (h2 : w a = none) (h3 : F.s₀.heap.get? a = none) (h4 : NT C a) : Aside C F s w a (lobj its n) :=
  ⟨h1, (fun vs' y t q => by cases q), (fun v q => by cases q), (fun es ep q => by cases q), h2, h3, h4⟩
theorem lb_stable (a : Addr) (vs : List V) : Stable C (LB F a vs) :=
  ⟨fun s w s' w' ⟨its, n, x, r⟩ e => ⟨its, n, x.ext e, r.mono e.vle⟩, fun s s' w ⟨its, n, x, r⟩ k => ⟨its, n, k.aside x, r⟩⟩
theorem s1_list_start (i : Nat) {x p es lp pos sts N P} (hn : F.env.scope.names[i]? = some (x, NameKind.local)) (hs : swapsWith (.List es lp) (some (.Name x p)) pos.line F.env = pure false)
    (h : LJ F false ρ lp es fun vs => vs.length ≤ 1000 ∧ ∀ a, SX F (ρ.set i (.ref a)) (LB F a vs) sts (fun _ _ => False) P) : SJ F false ρ (.Assign [.Name x p] (.List es lp) pos :: sts) N P := fun s w fi R E kn kr => by
  refine wpAny_execs_cons (wpAny_Assign_Name (wpAny_List (h s w fi _ E fun vs xs s₁ w₁ h₁ x₁ ok₁ rv => ⟨by rw [rv.length, sizeLine_eq]; omega, ?_⟩)) hs)
  have fi₁ := fi.ext x₁ ok₁
  have keep : ∀ b o, s₁.heap.get? b = some o → (s₁.heap.push (lobj xs.toArray 0)).get? b = some o := fun b o e => Heap.get?_push_of_some _ e
  have fi₂ : FI F false ρ { s₁ with heap := s₁.heap.push (lobj xs.toArray 0) } w₁ := fi₁.ext (Ext.of_keep (tk := s₁.toks) keep) (fi₁.ok.keep (tk := s₁.toks) keep)
  have none₁ : s₁.heap.get? s₁.heap.objs.size = none := Heap.get?_none_of_le (Nat.le_refl _)
  have hw : w₁ s₁.heap.objs.size = none := ok₁.none_size
  have hF : F.s₀.heap.get? s₁.heap.objs.size = none := by
    cases q : F.s₀.heap.get? s₁.heap.objs.size with
    | none => rfl
    | some o =>
      by_cases hb : NT C s₁.heap.objs.size
      · have := fi₁.keep _ _ hb q; rw [none₁] at this; cases this
      · exfalso; apply hb; intro t ht q'
        obtain ⟨ps, e, _⟩ := ok₁.tabs t ht
        rw [← q', none₁] at e; cases e
  have hnt : NT C s₁.heap.objs.size := fun t ht q' => by
    obtain ⟨ps, e, _⟩ := ok₁.tabs t ht
    rw [← q', none₁] at e; cases e
  have as : Aside C F { s₁ with heap := s₁.heap.push (lobj xs.toArray 0) } w₁ s₁.heap.objs.size (lobj xs.toArray 0) := lobj_aside (Heap.get?_push_size _ rfl) hw hF hnt
  refine fi_store (v := .ref s₁.heap.objs.size) fi₂ i hn (.inl rfl) rfl fun s' fi' kd => ?_
  exact h₁.2 _ s' w₁ fi' ⟨_, _, kd.aside as, by simpa using rv⟩ R E (fun _ _ _ _ hF => hF.elim) fun v x fz' ρ' s' w' hp fi' rv => kr v x fz' ρ' s' w' hp fi' rv
theorem x1_append (i : Nat) {x xp ap e cp pos vs a N P} (hn : F.env.scope.names[i]? = some (x, NameKind.local)) (hρ : ρ[i]? = some (.ref a)) (hlen : vs.length < 1000)
    (hi : interactive F.env = false) (hs : swapsWith (.Call (.Attribute (.Name x xp) (Str.ofString "append") ap) [e] [] cp) none pos.line F.env = pure false)
    {pl : Sem Bool} (he : eval (.Call (.Attribute (.Name x xp) (Str.ofString "append") ap) [e] [] cp) F.env = (do
      let ov ← eval (.Name x xp) F.env
      standAt ap.atName
      let (f, first) ← holding [ov] (getMethod ov (Str.ofString "append") pl)
      callWith cp f first (backTo cp (starEach [e] F.env)) []))
    (hst : starEach [e] F.env = (false, eval e F.env) :: starEach [] F.env)
    (h : EJ F false ρ e fun v => N (LB F a (vs ++ [v])) ρ) : X1 F ρ (LB F a vs) (.Expr (.Call (.Attribute (.Name x xp) (Str.ofString "append") ap) [e] [] cp) pos) N P := fun s w fi j R E kn kr => by
  refine wpAny_Expr ?_ hi hs
  refine MethodCall_ (pl := pl) ?_ he
  refine ej_local (F := F) (Q := fun v => v = .ref a) i hn hρ (by nofun) rfl s w fi _ E fun v y s₁ w₁ hv x₁ ok₁ ry => ?_
  subst hv
  obtain rfl : y = .ref a := ry
  have fi₁ := fi.ext x₁ ok₁
  obtain ⟨its, n, as, r⟩ := (lb_stable a vs).ext _ _ _ _ j x₁
  refine Calls.getMethod_list_append as.get rfl rfl ?_
  refine callWith_method1 ?_ hst rfl
  have hl : LJ F false ρ cp [e] fun us => ∃ v, us = [v] ∧ N (LB F a (vs ++ [v])) ρ := lj_cons (h.imp fun v hv => lj_nil ⟨v, rfl, hv⟩) hst
  refine hl s₁ w₁ fi₁ _ E fun us xs s₂ w₂ hu x₂ ok₂ rus => ?_
  obtain ⟨v, rfl, hv⟩ := hu
  obtain ⟨z, zs, rfl, rz, hz⟩ := rus
  obtain rfl : zs = [] := hz
  have as₂ := as.ext x₂
  have fi₂ := fi₁.ext x₂ ok₂
  have hsz : its.size = vs.length := by have := r.length; simpa using this
  refine append_at (its := its) (n := n) as₂.get (fun h' hsb hg => ?_) (by rw [sizeLine_eq]; omega)
  have k' : ∀ b y, b ≠ a → s₂.heap.get? b = some y → h'.get? b = some y := fun b y hb e => (hsb.2 b hb).trans e
  have fi₃ : FI F false ρ { s₂ with heap := h' } w₂ := fi₂.aside (tk := s₂.toks) as₂ k'
  refine kn _ _ _ w₂ hv fi₃ ⟨its.push z, n + 1, lobj_aside hg as₂.hid as₂.new as₂.nt, ?_⟩
  rw [Array.toList_push]
  exact (r.mono x₂.vle).snoc rz
theorem sx_reveal (i : Nat) {x sts a vs N P} (hn : F.env.scope.names[i]? = some (x, NameKind.local)) (hρ : ρ[i]? = some (.ref a))
    (h : SJ F false (ρ.set i (.lst vs)) sts (fun _ _ => False) P) : SX F ρ (LB F a vs) sts N P := fun s w fi j R E kn kr => by
  obtain ⟨its, n, as, r⟩ := j
  have lput : VLe w (put w a (lobj its n)) := VLe.put as.hid
  have ok' : Ok C (put w a (lobj its n)) s := by
    refine ⟨fun b o e => ?_, fun b o e => lput _ _ (fi.ok.top b o e), fi.ok.tabs, fun t ht => ?_⟩
    · by_cases hb : b = a
      · subst hb; rw [put_self] at e; cases e; exact as.get
      · rw [put_ne hb] at e; exact fi.ok.vin b o e
    · rw [put_ne (Ne.symm (as.nt t ht))]; exact fi.ok.hid t ht
  have hrep : Rep C (put w a (lobj its n)) (.lst vs) (.ref a) := ⟨a, its.toList, rfl, ⟨_, put_self .., rfl, n, by simp [lobj]⟩, r.mono lput⟩
  have fi' : FI F false (ρ.set i (.lst vs)) s (put w a (lobj its n)) := by
    obtain ⟨m, hns, hm⟩ := fi.ns
    refine ⟨fi.same, fi.keep, fun b o e => lput _ _ (fi.vle b o e), fun b o hb e hd => ?_, ok', fi.fresh, ?_, ⟨m, hns, fun k y v p q u => ?_⟩, fun k y kd c v p q u z t => ?_, fun y c p q => ?_, fi.apart⟩
    · rw [put_ne (fun q => by rw [q, as.new] at e; cases e)]; exact fi.old b o hb e hd
    · rw [put_ne (fun q => by
        obtain ⟨o', es, ep, e, hd, _⟩ := hns
        rw [q, as.get] at e; cases e; exact as.dict _ _ hd)]; exact fi.hidL
    · by_cases hik : i = k
      · subst hik
        rw [hn] at p; cases p
        obtain rfl := get_set_self q
        obtain ⟨y', e1, e2⟩ := hm i x (.ref a) hn hρ (by nofun)
        obtain rfl : y' = .ref a := e2
        exact ⟨_, e1, hrep⟩
      · rw [get_set_ne hik] at q
        obtain ⟨y', e1, e2⟩ := hm k y v p q u
        exact ⟨y', e1, e2.mono lput⟩
    · have hik : i ≠ k := fun q' => by subst q'; rw [hn] at p; cases p; rcases q with q | q <;> cases q
      rw [get_set_ne hik] at z
      obtain ⟨y', e1, e2⟩ := fi.cells k y kd c v p q u z t
      exact ⟨y', e1, e2.mono lput⟩
    · obtain ⟨h1, ⟨o, h2⟩, h3⟩ := fi.ownC y c p q
      refine ⟨h1, ⟨o, h2⟩, fun hf => ?_, fun hf => let ⟨o, e⟩ := h3.2 hf; ⟨o, lput _ _ e⟩⟩
      rw [put_ne (fun q' => by
        obtain ⟨o', e, hd⟩ := h2
        rw [q', as.get] at e; cases e; exact as.cell _ hd)]
      exact h3.1 hf
  exact h s _ fi' R E (fun _ _ _ _ hF => hF.elim) fun v x fz' ρ' s' w' hp fi' rv => kr v x fz' ρ' s' w' hp fi' rv
end
end Mine
end
section
namespace Mine
section
variable {C : Cx} {F : Fc C} {ρ : List V}
theorem sx_of_sj {J sts N P} (h : SJ F false ρ sts (fun _ _ => False) P) : SX F ρ J sts N P := fun s w fi j R E kn kr => h s w fi R E (fun _ _ _ _ hF => hF.elim) kr
theorem sj_of_sx {sts N P} (h : SX F ρ (fun _ _ => True) sts (fun _ _ => False) P) : SJ F false ρ sts N P := fun s w fi R E kn kr => h s w fi trivial R E (fun _ _ _ _ hF => hF.elim) kr
noncomputable def itCls (b : Bool) : String := if b then "tuple_iterator" else "list_iterator"
structure ForInv (F : Fc C) (J : Inv) (b : Bool) (l I : Addr) (vs : List V) (items : List Value) (K : Nat → List V → Prop) (i : Nat) (s : Shared) (w : View) : Prop where
  fi : ∃ ρ', K i ρ' ∧ FI F false ρ' s w
  j : J s w
  src : if b = true then TupV w l items else LstV w l items
  srcR : Reps C w vs items
  it : ∃ o, Aside C F s w I o ∧ o.cls = .type (itCls b) ∧ o.data = .fields #[.ref l, .int i 0]
  le : i ≤ vs.length
noncomputable def OffIt (F : Fc C) (J : Inv) : Prop := ∀ s w I o l i h' tk, J s w → Aside C F s w I o → o.data = .fields #[.ref l, .int i 0] → (∀ b y, b ≠ I → s.heap.get? b = some y → h'.get? b = some y) → J { s with heap := h', toks := tk } w
theorem offIt_true : OffIt F (fun _ _ => True) := fun _ _ _ _ _ _ _ _ _ _ _ _ => trivial
theorem x1_for {J : Inv} {target iter test : Expr} {rv : Expr} {rp ip pos : Pos} {N P} (hJ : Stable C J) (hO : OffIt F J) (hs : ∀ x, foldedSetIterable iter F.env x = pure x)
    (h : EJ F false ρ iter fun v => ∃ (b : Bool) (vs : List V) (K : Nat → List V → Prop), v = (if b = true then .tup vs else .lst vs) ∧ K 0 ρ ∧
      (∀ i (hi : i < vs.length) ρ', K i ρ' → TargetJ F false ρ' target vs[i] fun ρ'' => TJ F false ρ'' test fun c => c = false ∧ K (i + 1) ρ'') ∧ ∀ ρ', K vs.length ρ' → N J ρ') :
    X1 F ρ J (.For target iter [.If test [.Return (some rv) rp] [] ip] [] pos) N P := fun s w fi j R E kn kr => by
  refine wpAny_For (h s w fi _ E fun v x s₁ w₁ h₁ x₁ ok₁ rv₁ => ?_) hs
  obtain ⟨b, vs, K, rfl, hK0, turn, hend⟩ := h₁
  have fi₁ := fi.ext x₁ ok₁
  have j₁ := hJ.ext _ _ _ _ j x₁
  obtain ⟨l, items, rfl, hsrc, hr⟩ : ∃ l items, x = .ref l ∧ (if b = true then TupV w₁ l items else LstV w₁ l items) ∧ Reps C w₁ vs items := by
    cases b
    · obtain ⟨a, items, e, t, r⟩ := rv₁; exact ⟨a, items, e, t, r⟩
    · obtain ⟨a, items, e, t, r⟩ := rv₁; exact ⟨a, items, e, t, r⟩
  let I := s₁.heap.objs.size
  let io : Obj := { cls := .type (itCls b), data := .fields #[.ref l, .int 0 0] }
  have keep : ∀ c o, s₁.heap.get? c = some o → (s₁.heap.push io).get? c = some o := fun c o e => Heap.get?_push_of_some _ e
  have none₁ : s₁.heap.get? I = none := Heap.get?_none_of_le (Nat.le_refl _)
  have hnt : NT C I := fun t ht q' => by
    obtain ⟨ps, e, _⟩ := ok₁.tabs t ht
    rw [← q', none₁] at e; cases e
  have hF : F.s₀.heap.get? I = none := by
    cases q : F.s₀.heap.get? I with
    | none => rfl
    | some o => have := fi₁.keep _ _ hnt q; rw [none₁] at this; cases this
  have e₂ : Ext C w₁ s₁ w₁ { s₁ with heap := s₁.heap.push io } := Ext.of_keep (tk := s₁.toks) keep
  have ok₂ : Ok C w₁ { s₁ with heap := s₁.heap.push io } := ok₁.keep (tk := s₁.toks) keep
  have as : Aside C F { s₁ with heap := s₁.heap.push io } w₁ I io := ⟨Heap.get?_push_size _ rfl, (fun vs' y t q => by cases q; intro hh; cases hh), (fun v q => by cases q), (fun es ep q => by cases q), ok₁.none_size, hF, hnt⟩
  have V₀ : ForInv F J b l I vs items K 0 { s₁ with heap := s₁.heap.push io } w₁ := ⟨⟨ρ, hK0, fi₁.ext e₂ ok₂⟩, hJ.ext _ _ _ _ j₁ e₂, hsrc, hr, ⟨io, as, rfl, rfl⟩, Nat.zero_le _⟩
  have main : codeAny (model C.prog C.wd) F.A (.forLoop target (.ref I) [.If test [.Return (some rv) rp] [] ip] [] F.env) (fun r s' => match r with | .ok f => R f s' | .error e => cameBackBy (model C.prog C.wd) F.A F.env E e s') { s₁ with heap := s₁.heap.push io } := by
    refine codeAny_forLoop_any (fun n s' => ∃ i w', n = vs.length - i ∧ ForInv F J b l I vs items K i s' w') (fun n s' hI => ?_) vs.length ⟨0, w₁, by simp, V₀⟩
    obtain ⟨i, w', rfl, V⟩ := hI
    obtain ⟨oI, aI, cI, dI⟩ := V.it
    obtain ⟨ρ', hK, fi'⟩ := V.fi
    have hil := V.srcR.length
    by_cases hi : i < vs.length
    · have hi' : i < items.length := by omega
      obtain ⟨y, hy, ry⟩ := V.srcR.get (List.getElem?_eq_getElem hi)
      have next : ∀ h₁ : Heap, (∃ o, h₁.get? I = some o ∧ o.cls = .type (itCls b) ∧ o.data = .fields #[.ref l, .int (i + 1 : Nat) 0]) → (({ s' with heap := h₁ } : Shared).heap.IsListIter I l (i + 1) ∨ ({ s' with heap := h₁ } : Shared).heap.IsTupleIter I l (i + 1)) → Heap.SameBut I s'.heap h₁ →
          wpAny (model C.prog C.wd) F.A (letOwnedTupleGo target (.ref I) y) (fun _ s₁' =>
            wpAny (model C.prog C.wd) F.A (assign target F.env y) (fun _ s₂ => wpAny (model C.prog C.wd) F.A (execs [.If test [.Return (some rv) rp] [] ip] F.env) (fun f s₃ => match f with
              | .next | .cont => ∃ m, m < vs.length - i ∧ ∃ i₁ w₁, m = vs.length - i₁ ∧ ForInv F J b l I vs items K i₁ s₃ w₁
              | .brk => (fun r s' => match r with | .ok f => R f s' | .error e => cameBackBy (model C.prog C.wd) F.A F.env E e s') (Except.ok Flow.next : Result) s₃
              | .ret v => (fun r s' => match r with | .ok f => R f s' | .error e => cameBackBy (model C.prog C.wd) F.A F.env E e s') (Except.ok (Flow.ret v) : Result) s₃) (notedBy (model C.prog C.wd) F.A F.env fun e s' => (fun r s' => match r with | .ok f => R f s' | .error e => cameBackBy (model C.prog C.wd) F.A F.env E e s') (Except.error e : Result) s') s₂) (notedBy (model C.prog C.wd) F.A F.env fun e s' => (fun r s' => match r with | .ok f => R f s' | .error e => cameBackBy (model C.prog C.wd) F.A F.env E e s') (Except.error e : Result) s') s₁') (notedBy (model C.prog C.wd) F.A F.env fun e s' => (fun r s' => match r with | .ok f => R f s' | .error e => cameBackBy (model C.prog C.wd) F.A F.env E e s') (Except.error e : Result) s') { s' with heap := h₁ } := by
        intro h₁ ⟨oI', gI', cI', dI'⟩ hit₁ hs₁
        have k₁ : ∀ c y, c ≠ I → s'.heap.get? c = some y → h₁.get? c = some y := fun c y hb e => (hs₁.2 c hb).trans e
        have fi₁' : FI F false ρ' { s' with heap := h₁ } w' := fi'.aside (tk := s'.toks) aI k₁
        have j₁' : J { s' with heap := h₁ } w' := hO _ _ _ _ _ _ h₁ s'.toks V.j aI dI k₁
        have aI₁ : Aside C F { s' with heap := h₁ } w' I oI' := ⟨gI', (fun vs' y t q => by rw [dI'] at q; cases q; intro hh; cases hh), (fun v q => by rw [dI'] at q; cases q), (fun es ep q => by rw [dI'] at q; cases q), aI.hid, aI.new, aI.nt⟩
        refine wp_target (K := fun ρ'' => TJ F false ρ'' test fun c => c = false ∧ K (i + 1) ρ'') fi₁' ry (turn i hi ρ' hK) hit₁ fun ρ'' s₂ hT fi₂ kd₂ => ?_
        have aI₂ := kd₂.aside aI₁
        have j₂ := hJ.keep _ _ _ j₁' kd₂
        refine wpAny_execs_cons (wpAny_If (hT s₂ w' fi₂ _ _ fun c s₃ w₃ hc x₃ ok₃ => ?_))
        obtain ⟨rfl, hK'⟩ := hc
        refine wpAny_execs_nil (wpAny_execs_nil ?_)
        exact ⟨vs.length - (i + 1), by omega, i + 1, w₃, rfl, ⟨ρ'', hK', fi₂.ext x₃ ok₃⟩, hJ.ext _ _ _ _ j₂ x₃, by
          have := V.src
          cases b
          · exact LstV.mono x₃.vle this
          · exact TupV.mono x₃.vle this, V.srcR.mono x₃.vle, ⟨oI', aI₂.ext x₃, cI', dI'⟩, hi⟩
      have src := V.src
      cases b
      · have hl : s'.heap.IsList l items.toArray := LstV.of fi'.ok src
        refine wpAny_pyNext_list_item (i := i) ⟨oI, aI.get, cI, dI⟩ hl (x := y) (by simpa using hy) fun h₁ hit₁ hs₁ => next h₁ ?_ (.inl hit₁) hs₁
        obtain ⟨o, e1, e2, e3⟩ := hit₁; exact ⟨o, e1, e2, e3⟩
      · have hl : s'.heap.IsTuple l items.toArray := TupV.of' fi'.ok src
        refine wpAny_pyNext_tuple_item (i := i) ⟨oI, aI.get, cI, dI⟩ hl (x := y) (by simpa using hy) fun h₁ hit₁ hs₁ => next h₁ ?_ (.inr hit₁) hs₁
        obtain ⟨o, e1, e2, e3⟩ := hit₁; exact ⟨o, e1, e2, e3⟩
    · have he : i = vs.length := by have := V.le; omega
      subst he
      have fin : ∀ h₁, Heap.ExtBut I s'.heap h₁ → wpAny (model C.prog C.wd) F.A (execs [] F.env) (fun f s₃ => (fun r s' => match r with | .ok f => R f s' | .error e => cameBackBy (model C.prog C.wd) F.A F.env E e s') (Except.ok f : Result) s₃) (notedBy (model C.prog C.wd) F.A F.env fun e s' => (fun r s' => match r with | .ok f => R f s' | .error e => cameBackBy (model C.prog C.wd) F.A F.env E e s') (Except.error e : Result) s') { s' with heap := h₁ } := fun h₁ hx => by
        refine wpAny_execs_nil ?_
        exact kn _ _ _ w' (hend ρ' hK) (fi'.aside (tk := s'.toks) aI hx) (hO _ _ _ _ _ _ h₁ s'.toks V.j aI dI hx)
      have src := V.src
      cases b
      · have hl : s'.heap.IsList l items.toArray := LstV.of fi'.ok src
        exact wpAny_pyNext_list_end F.room.hand (i := vs.length) ⟨oI, aI.get, cI, dI⟩ hl (by simp; omega) fin
      · have hl : s'.heap.IsTuple l items.toArray := TupV.of' fi'.ok src
        exact wpAny_pyNext_tuple_end F.room.hand (i := vs.length) ⟨oI, aI.get, cI, dI⟩ hl (by simp; omega) fin
  cases b
  · exact wpAny_pyIter_list (LstV.of ok₁ hsrc) main
  · exact wpAny_pyIter_tuple (TupV.of' ok₁ hsrc) main
end
end Mine
end
section
namespace Mine
structure FnC (C : Cx) (g : Str) (i : Nat) (inner : Str) : Prop where
  ex : ∃ (a : Addr) (oc : Value) (od : Option Addr) (doc pm : Value) (an : Option Addr) (c P : Addr) (ct : Value) (osl : Array (Option Value)), nsIn C.K mainGlobals g = some (some (.ref a)) ∧ keepIn C.K (.ref a) = true ∧
    C.K.lookup a = some ⟨oc, od, .func (fnOf g g (defAt i).1 (defAt i).2.1 (defAt i).2.2 .none .none doc pm an (.ref c) ct), osl⟩ ∧ codeIn C.K (.ref c) g = true ∧ (c, P, g ++ ".<locals>." ++ inner) ∈ C.tabs
theorem FnC.call {C : Cx} {g q : Str} {i : Nat} (h : FnC C g i q) : GCall C g := let ⟨a, _, _, _, _, _, _, _, _, _, h1, h2, _⟩ := h.ex; ⟨a, h1, h2⟩
theorem spec_fnC {C : Cx} (G : C.Good) {g q : Str} (i : Nat) (H : FnC C g i q) (n k : Nat) {vs : List V} {P : V → Prop} {p : Str × NameKind} {r : List (Str × NameKind)} {st : Stmt} {sts : List Stmt} (hok : checkScope (defAt i).2.2 (psAt i) = true) (hlen : (psAt i).length = vs.length)
    (hb : ∀ (fd : FuncData), fd.params = (defAt i).1 → fd.defaults = .none → fd.kwdefaults = .none → ∀ xs : List Value, xs.length = vs.length → bindArgs fd ⟨xs, []⟩ = pure ((psAt i).zip xs))
    (hns : (defAt i).2.2.names = p :: r) (hbd : (defAt i).2.1 = st :: sts) (hk : (defAt i).2.2.names.length - vs.length = k)
    (hbody : ∀ F : Fc C, F.n = n → F.env.scope.names = p :: r → (∀ x, F.env.scope.names.lookup x = some .cell → (F.env.cells.lookup x).isSome = true) → F.env.qual = g ++ ".<locals>." →
      (∃ c P, F.env.code = .ref c ∧ (c, P, g ++ ".<locals>." ++ q) ∈ C.tabs) → F.env.scope = (defAt i).2.2 → SJ F false (vs ++ List.replicate k .undef) (st :: sts) (fun _ _ => P .none) P) : Spec C (n + 1) g vs P := by
  obtain ⟨a, oc, od, doc, pm, an, c, Pt, ct, osl, h1, h2, h3, h4, h5⟩ := H.ex
  refine spec_def G h1 h2 h3 h4 (scopeOk_of hok) hlen (hb _ rfl rfl rfl) fun F e1 e2 e3 e4 e5 => ?_
  have := hbody F e1 (by rw [e2]; exact hns) (by rw [e2]; exact e4) e5 ⟨c, Pt, e3, h5⟩ e2
  unfold start0
  rw [hk, hbd]
  exact this
structure Cx.All (C : Cx) : Prop where
  G : C.Good
  RO : C.RealOk
  RM : C.RealMk
  f8 : FnIs C "size_of" 8
  f9 : FnIs C "sign_of_whole" 9
  f10 : FnIs C "zeros_below" 10
  f11 : FnIs C "lean" 11
  f12 : FnIs C "nearest_shift" 12
  f13 : FnIs C "shifted_round" 13
  f14 : FnIs C "with_sticky" 14
  f15 : FnIs C "rounded" 15
  f16 : FnIs C "place_of" 16
  f17 : FnIs C "sign_of" 17
  f18 : FnIs C "negative" 18
  f19 : FnIs C "magnitude" 19
  f20 : FnIs C "same_real" 20
  f21 : FnIs C "compare_magnitudes" 21
  f22 : FnIs C "compare_reals" 22
  f23 : FnIs C "far_sum" 23
  f24 : FnIs C "add_reals" 24
  f25 : FnIs C "subtract_reals" 25
  f26 : FnIs C "divide_reals" 26
  f27 : FnIs C "root_below" 27
  f32 : FnIs C "up_shift" 32
  f33 : FnIs C "up_over" 33
  f34 : FnIs C "fraction_bounds" 34
  f35 : FnIs C "more_of" 35
  f36 : FnIs C "less_of" 36
  f37 : FnIs C "contrary_of" 37
  f38 : FnIs C "often" 38
  f39 : FnIs C "product_of" 39
  f40 : FnIs C "part_of" 40
  f41 : FnIs C "quotient_of" 41
  f42 : FnIs C "widened" 42
  f43 : FnIs C "greatest_of" 43
  f44 : FnIs C "fraction_of" 44
  f45 : FnIs C "inverse_series" 45
  f46 : FnIs C "log_of_two" 46
  f47 : FnIs C "half_turn" 47
  f48 : FnIs C "exp_series" 48
  f49 : FnIs C "wave_series" 49
  f50 : FnIs C "odd_series" 50
  f51 : FnIs C "decided" 51
  f52 : FnIs C "reduced_by_twos" 52
  f54 : FnIs C "log_bounds" 54
  f56 : FnIs C "quarter_turns" 56
  f57 : FnIs C "wave_bounds" 57
  f58 : FnIs C "need_turns" 58
  f59 : FnIs C "is_slight" 59
  f60 : FnIs C "angle_work" 60
  f63 : FnIs C "tan_bounds" 63
  f65 : FnIs C "small_arc" 65
  f66 : FnIs C "arc_bounds" 66
  f67 : FnIs C "arc_within" 67
  f69 : FnIs C "root_bounds" 69
  f70 : FnIs C "need_sine" 70
  f71 : FnIs C "asin_bounds" 71
  f74 : FnIs C "acos_bounds" 74
  f76 : FnIs C "ratio_of_reals" 76
  f77 : FnIs C "slight_arc" 77
  f80 : FnIs C "_law_drawn" 80
  f81 : FnIs C "_law_is_at_most" 81
  f82 : FnIs C "_law_is_odd" 82
  f83 : FnIs C "_law_are_ordered" 83
  f84 : FnIs C "_law_are_bound" 84
  f85 : FnIs C "_law_are_angles" 85
  f53 : FnC C "exp_real" 53 "bounds_at"
  f55 : FnC C "log_real" 55 "<lambda>"
  f61 : FnC C "sin_real" 61 "bounds_at"
  f62 : FnC C "cos_real" 62 "bounds_at"
  f64 : FnC C "tan_real" 64 "<lambda>"
  f68 : FnC C "atan_real" 68 "<lambda>"
  f72 : FnC C "quarter_of" 72 "<lambda>"
  f73 : FnC C "asin_real" 73 "<lambda>"
  f75 : FnC C "acos_real" 75 "<lambda>"
  f78 : FnC C "atan_two_real" 78 "bounds_at"
  b_abs : nsIn C.K mainGlobals "abs" = some none
  b_min : nsIn C.K mainGlobals "min" = some none
  b_max : nsIn C.K mainGlobals "max" = some none
  b_divmod : nsIn C.K mainGlobals "divmod" = some none
  b_len : nsIn C.K mainGlobals "len" = some none
  g_MORE : ∃ t, nsIn C.K mainGlobals "MORE" = some (some (.int 12 t))
  g_MOST_PLACE : ∃ t, nsIn C.K mainGlobals "MOST_PLACE" = some (some (.int 17 t))
  g_MOST_TURNS : ∃ t, nsIn C.K mainGlobals "MOST_TURNS" = some (some (.int 512 t))
  g_REACH : ∃ t, nsIn C.K mainGlobals "REACH" = some (some (.int 65536 t))
theorem globI {C : Cx} {g : Str} {i : Int} (h : ∃ t, nsIn C.K mainGlobals g = some (some (.int i t))) : GlobV C g (.int i) := let ⟨t, e⟩ := h; ⟨_, e, fun _ _ _ => ⟨t, rfl⟩⟩
theorem cl {C : Cx} {n m : Nat} {g : Str} {vs : List V} {r : V} {Q : V → Prop} {F : Fc C} (hn : F.n = m) (h : Spec C n g vs (fun v => v = r)) (hle : n ≤ m) (q : Q r) : Spec C F.n g vs Q := by
  rw [hn]; exact (h.up hle).imp fun v e => e ▸ q
theorem if_tt {A B : Prop} (h : A) : if true = true then A else B := by rw [if_pos rfl]; exact h
theorem if_ff {A B : Prop} (h : B) : if false = true then A else B := by rw [if_neg Bool.false_ne_true]; exact h
theorem tup_q {n : Nat} {l : List V} {Q : List V → Prop} (h1 : l.length = n) (h : Q l) : TupQ n Q (.tup l) := ⟨h1, h⟩
noncomputable def RV : Option (Int × Int) → V
  | none => .none
  | some (m, e) => .real m e
noncomputable def smD (i : Int) : Decidable (Sm i) := inferInstanceAs (Decidable (i.natAbs < 2 ^ 8000))
noncomputable def gmul (a b : Int) : Option Int := haveI := smD a; haveI := smD b; if Sm a ∧ Sm b then some (a * b) else none
noncomputable def gdiv (a b : Int) : Option Int := haveI := smD b; if b ≠ 0 ∧ Sm b then some (a.fdiv b) else none
noncomputable def gmod (a b : Int) : Option Int := if b ≠ 0 then some (a.fmod b) else none
noncomputable def gshl (a n : Int) : Option Int := haveI := smD a; if Sm a ∧ 0 ≤ n ∧ n ≤ 100000 then some (a * 2 ^ n.toNat) else none
noncomputable def gshr (a n : Int) : Option Int := if 0 ≤ n then some (a.fdiv (2 ^ n.toNat)) else none
theorem guard_some {α : Type} {p : Prop} {_ : Decidable p} {x y : α} (h : (if p then some x else none) = some y) : p ∧ x = y := by
  split at h
  · rename_i hp; exact ⟨hp, Option.some.inj h⟩
  · cases h
theorem bq_gmul {a b c : Int} {Q : V → Prop} (h : gmul a b = some c) (q : Q (.int c)) : BinQ Q .Mult (.int a) (.int b) := by
  obtain ⟨⟨h1, h2⟩, rfl⟩ := guard_some h; exact bq_mul h1 h2 q
theorem bq_gdiv {a b c : Int} {Q : V → Prop} (h : gdiv a b = some c) (q : Q (.int c)) : BinQ Q .FloorDiv (.int a) (.int b) := by
  obtain ⟨⟨h1, h2⟩, rfl⟩ := guard_some h; exact bq_div h1 h2 q
theorem bq_gmod {a b c : Int} {Q : V → Prop} (h : gmod a b = some c) (q : Q (.int c)) : BinQ Q .Mod (.int a) (.int b) := by
  obtain ⟨h1, rfl⟩ := guard_some h; exact bq_mod h1 q
theorem bq_gshl {a b c : Int} {Q : V → Prop} (h : gshl a b = some c) (q : Q (.int c)) : BinQ Q .LShift (.int a) (.int b) := by
  obtain ⟨⟨h1, h2, h3⟩, rfl⟩ := guard_some h; exact bq_shl h1 h2 h3 q
theorem bq_gshr {a b c : Int} {Q : V → Prop} (h : gshr a b = some c) (q : Q (.int c)) : BinQ Q .RShift (.int a) (.int b) := by
  obtain ⟨h1, rfl⟩ := guard_some h; exact bq_shr h1 q
theorem bc_gdivmod {C : Cx} {a b c d : Int} {Q : V → Prop} (h : gdiv a b = some c) (h' : gmod a b = some d) (q : Q (.tup [.int c, .int d])) : BCall C "divmod" [.int a, .int b] Q := by
  obtain ⟨⟨h1, h2⟩, rfl⟩ := guard_some h
  obtain ⟨_, rfl⟩ := guard_some h'
  exact bc_divmod h1 h2 q
theorem br {α : Type} {c : Bool} {X Y : Option α} {r : α} {A B : Prop} (h : (if c = true then X else Y) = some r) (h1 : X = some r → A) (h2 : Y = some r → B) : if c = true then A else B := by
  cases c
  · rw [if_neg Bool.false_ne_true] at h ⊢; exact h2 h
  · rw [if_pos rfl] at h ⊢; exact h1 h
section
variable {C : Cx} {F : Fc C} {fz : Bool} {ρ : List V}
noncomputable def NegQ (Q : V → Prop) : V → Prop
  | .int a => Q (.int (-a))
  | _ => False
theorem ej_neg {e pos} {Q : V → Prop} (h : EJ F fz ρ e (NegQ Q)) : EJ F fz ρ (.UnaryOp .USub e pos) Q := fun s w fi R E k =>
  wpAny_UnaryOp (h s w fi _ E fun v x s₁ w₁ h₁ x₁ ok₁ rv => by
    cases v <;> first | exact h₁.elim | skip
    obtain ⟨t, rfl⟩ := rv
    exact neg_int (k _ _ _ w₁ h₁ (x₁.trans (Ext.toks ..)) (ok₁.toks _) ⟨_, rfl⟩))
theorem interactive_no (F : Fc C) : interactive F.env = false := by unfold interactive; rw [F.kind]; rfl
theorem Spec.g {n : Nat} {g : Str} {vs : List V} {P : V → Prop} (h : Spec C n g vs P) : GCall C g := let ⟨a, h1, h2, _⟩ := h; ⟨a, h1, h2⟩
theorem gc_Real (H : C.All) : GCall C "Real" := (spec_Real H.G H.RM 0 0).g
theorem globF {g : Str} (h : GCall C g) : GlobV C g (.gl g) := let ⟨a, h1, _⟩ := h; ⟨_, h1, fun _ _ _ => h1⟩
theorem hb_abs : bootBuiltins (Str.ofString "abs") = some (.builtin "abs") := by kernel_rfl
theorem hb_min : bootBuiltins (Str.ofString "min") = some (.builtin "min") := by kernel_rfl
theorem hb_max : bootBuiltins (Str.ofString "max") = some (.builtin "max") := by kernel_rfl
theorem hb_divmod : bootBuiltins (Str.ofString "divmod") = some (.builtin "divmod") := by kernel_rfl
theorem sub_of {inner outer : List (Str × NameKind)} (hN : F.env.scope.names = outer) (h : inner.all (fun p => !(p.2 == .free) || outer.lookup p.1 == some .cell) = true) : ∀ x, (x, NameKind.free) ∈ inner → F.env.scope.names.lookup x = some .cell := fun x hx => by
  have := List.all_eq_true.mp h _ hx
  rw [hN]
  simpa using this
noncomputable def checkInner (scope : Scope) (p : Str) : Bool := (scope.kind == .function) && !scope.isCoroutine && !scope.isGenerator && decide (scope.names.map (·.1)).Nodup && ((scope.names.map (·.1)).all fun x => !(x == ("__debug__" : Str)) && !(x == ("__classdict__" : Str))) && scope.names.all (fun x => !(x.2 == .cell)) && scope.names.lookup p == some .local
theorem innerOk_of {scope : Scope} {p : Str} (h : checkInner scope p = true) : InnerOk scope p := by
  unfold checkInner at h
  simp only [Bool.and_eq_true, Bool.not_eq_true', beq_iff_eq, decide_eq_true_eq] at h
  obtain ⟨⟨⟨⟨⟨⟨h1, h2⟩, h3⟩, h4⟩, h5⟩, h6⟩, h7⟩ := h
  exact ⟨h1, h2, h3, h4, fun x hx => by simpa using List.all_eq_true.mp h5 x hx, fun x hx => by simpa using List.all_eq_true.mp h6 x hx, h7⟩
end
section
variable {C : Cx} {F : Fc C} {x0 x1 x2 x3 x4 x5 x6 x7 x8 x9 x10 x11 x12 x13 x14 x15 x16 x17 x18 x19 x20 x21 x22 x23 x24 x25 x26 x27 x28 x29 : Str × NameKind} {t : List (Str × NameKind)}
theorem n16 (hN : F.env.scope.names = x0 :: x1 :: x2 :: x3 :: x4 :: x5 :: x6 :: x7 :: x8 :: x9 :: x10 :: x11 :: x12 :: x13 :: x14 :: x15 :: x16 :: t) : F.env.scope.names[16]? = some x16 := by rw [hN]; rfl
theorem n17 (hN : F.env.scope.names = x0 :: x1 :: x2 :: x3 :: x4 :: x5 :: x6 :: x7 :: x8 :: x9 :: x10 :: x11 :: x12 :: x13 :: x14 :: x15 :: x16 :: x17 :: t) : F.env.scope.names[17]? = some x17 := by rw [hN]; rfl
theorem n18 (hN : F.env.scope.names = x0 :: x1 :: x2 :: x3 :: x4 :: x5 :: x6 :: x7 :: x8 :: x9 :: x10 :: x11 :: x12 :: x13 :: x14 :: x15 :: x16 :: x17 :: x18 :: t) : F.env.scope.names[18]? = some x18 := by rw [hN]; rfl
theorem n19 (hN : F.env.scope.names = x0 :: x1 :: x2 :: x3 :: x4 :: x5 :: x6 :: x7 :: x8 :: x9 :: x10 :: x11 :: x12 :: x13 :: x14 :: x15 :: x16 :: x17 :: x18 :: x19 :: t) : F.env.scope.names[19]? = some x19 := by rw [hN]; rfl
theorem n20 (hN : F.env.scope.names = x0 :: x1 :: x2 :: x3 :: x4 :: x5 :: x6 :: x7 :: x8 :: x9 :: x10 :: x11 :: x12 :: x13 :: x14 :: x15 :: x16 :: x17 :: x18 :: x19 :: x20 :: t) : F.env.scope.names[20]? = some x20 := by rw [hN]; rfl
theorem n21 (hN : F.env.scope.names = x0 :: x1 :: x2 :: x3 :: x4 :: x5 :: x6 :: x7 :: x8 :: x9 :: x10 :: x11 :: x12 :: x13 :: x14 :: x15 :: x16 :: x17 :: x18 :: x19 :: x20 :: x21 :: t) : F.env.scope.names[21]? = some x21 := by rw [hN]; rfl
theorem n22 (hN : F.env.scope.names = x0 :: x1 :: x2 :: x3 :: x4 :: x5 :: x6 :: x7 :: x8 :: x9 :: x10 :: x11 :: x12 :: x13 :: x14 :: x15 :: x16 :: x17 :: x18 :: x19 :: x20 :: x21 :: x22 :: t) : F.env.scope.names[22]? = some x22 := by rw [hN]; rfl
theorem n23 (hN : F.env.scope.names = x0 :: x1 :: x2 :: x3 :: x4 :: x5 :: x6 :: x7 :: x8 :: x9 :: x10 :: x11 :: x12 :: x13 :: x14 :: x15 :: x16 :: x17 :: x18 :: x19 :: x20 :: x21 :: x22 :: x23 :: t) : F.env.scope.names[23]? = some x23 := by rw [hN]; rfl
theorem n24 (hN : F.env.scope.names = x0 :: x1 :: x2 :: x3 :: x4 :: x5 :: x6 :: x7 :: x8 :: x9 :: x10 :: x11 :: x12 :: x13 :: x14 :: x15 :: x16 :: x17 :: x18 :: x19 :: x20 :: x21 :: x22 :: x23 :: x24 :: t) : F.env.scope.names[24]? = some x24 := by rw [hN]; rfl
theorem n25 (hN : F.env.scope.names = x0 :: x1 :: x2 :: x3 :: x4 :: x5 :: x6 :: x7 :: x8 :: x9 :: x10 :: x11 :: x12 :: x13 :: x14 :: x15 :: x16 :: x17 :: x18 :: x19 :: x20 :: x21 :: x22 :: x23 :: x24 :: x25 :: t) : F.env.scope.names[25]? = some x25 := by rw [hN]; rfl
theorem n26 (hN : F.env.scope.names = x0 :: x1 :: x2 :: x3 :: x4 :: x5 :: x6 :: x7 :: x8 :: x9 :: x10 :: x11 :: x12 :: x13 :: x14 :: x15 :: x16 :: x17 :: x18 :: x19 :: x20 :: x21 :: x22 :: x23 :: x24 :: x25 :: x26 :: t) : F.env.scope.names[26]? = some x26 := by rw [hN]; rfl
end
end Mine
end
section
namespace Mine
theorem nope {β : Type} {r : β} {P : Prop} (h : (none : Option β) = some r) : P := nomatch h
section
variable {α : Type}
noncomputable def ixL (x : Str) : List (Str × NameKind) → Nat → Option (Nat × NameKind)
  | [], _ => none
  | y :: ys, i => if Fast.sEq x y.1 = true then some (i, y.2) else ixL x ys (i + 1)
theorem ite_c {β : Type} {c : Bool} {X Y : Option β} {r : β} {P : Prop} (h : (if c = true then X else Y) = some r) (h1 : c = true → X = some r → P) (h2 : Y = some r → P) : P := by
  cases c
  · exact h2 h
  · exact h1 rfl h
theorem ixL_s {x : Str} : ∀ (l : List (Str × NameKind)) {i j : Nat} {k : NameKind}, ixL x l i = some (j, k) → ∃ d, j = i + d ∧ l[d]? = some (x, k)
  | [], _, _, _, h => nope h
  | y :: ys, i, j, k, h => ite_c (show (if Fast.sEq x y.1 = true then some (i, y.2) else ixL x ys (i + 1)) = some (j, k) from h)
    (fun e h => by cases h; exact ⟨0, rfl, by rw [Fast.sEq_iff.mp e]; rfl⟩)
    fun h => (ixL_s ys h).elim fun d q => ⟨d + 1, q.1.trans (Nat.add_right_comm i 1 d), q.2⟩
noncomputable def intK (v : V) (k : Int → Option α) : Option α := match v with | .int a => k a | _ => none
theorem intK_s {v : V} {k : Int → Option α} {r : α} (h : intK v k = some r) : ∃ a, v = .int a ∧ k a = some r := by
  cases v <;> first | exact ⟨_, rfl, h⟩ | exact nope h
noncomputable def boolK (v : V) (k : Bool → Option α) : Option α := match v with | .bool a => k a | _ => none
theorem boolK_s {v : V} {k : Bool → Option α} {r : α} (h : boolK v k = some r) : ∃ a, v = .bool a ∧ k a = some r := by
  cases v <;> first | exact ⟨_, rfl, h⟩ | exact nope h
noncomputable def realK (v : V) (k : Int → Int → Option α) : Option α := match v with | .real a b => k a b | _ => none
theorem realK_s {v : V} {k : Int → Int → Option α} {r : α} (h : realK v k = some r) : ∃ a b, v = .real a b ∧ k a b = some r := by
  cases v <;> first | exact ⟨_, _, rfl, h⟩ | exact nope h
noncomputable def tupK (v : V) (k : List V → Option α) : Option α := match v with | .tup a => k a | _ => none
theorem tupK_s {v : V} {k : List V → Option α} {r : α} (h : tupK v k = some r) : ∃ a, v = .tup a ∧ k a = some r := by
  cases v <;> first | exact ⟨_, rfl, h⟩ | exact nope h
noncomputable def noneK (v : V) (k : Option α) : Option α := match v with | .none => k | _ => none
theorem noneK_s {v : V} {k : Option α} {r : α} (h : noneK v k = some r) : v = .none ∧ k = some r := by
  cases v <;> first | exact ⟨rfl, h⟩ | exact nope h
noncomputable def defK (v : V) (k : Option α) : Option α := match v with | .undef => none | _ => k
noncomputable def isDef (v : V) : Bool := match v with | .undef => false | _ => true
theorem defK_s {v : V} {k : Option α} {r : α} (h : defK v k = some r) : v ≠ .undef ∧ k = some r := by
  have e : isDef v = true ∧ k = some r := by cases v <;> first | exact ⟨rfl, h⟩ | exact nope h
  exact ⟨fun q => by rw [q] at e; exact absurd e.1 Bool.false_ne_true, e.2⟩
noncomputable def someK {β : Type} (o : Option β) (k : β → Option α) : Option α := match o with | some x => k x | none => none
theorem someK_s {β : Type} {o : Option β} {k : β → Option α} {r : α} (h : someK o k = some r) : ∃ x, o = some x ∧ k x = some r := by
  cases o <;> first | exact ⟨_, rfl, h⟩ | exact nope h
noncomputable def binK (op : Operator) (a b : V) (K : V → Option α) : Option α := match op with
  | .Add => intK a fun a => intK b fun b => K (.int (a + b))
  | .Sub => (match a with | .bool x => boolK b fun y => K (.int (b2i x - b2i y)) | _ => intK a fun a => intK b fun b => K (.int (a - b)))
  | .Mult => intK a fun a => intK b fun b => (gmul a b).bind fun c => K (.int c)
  | .FloorDiv => intK a fun a => intK b fun b => (gdiv a b).bind fun c => K (.int c)
  | .Mod => intK a fun a => intK b fun b => (gmod a b).bind fun c => K (.int c)
  | .LShift => intK a fun a => intK b fun b => (gshl a b).bind fun c => K (.int c)
  | .RShift => intK a fun a => intK b fun b => (gshr a b).bind fun c => K (.int c)
  | .BitAnd => intK a fun a => intK b fun b => K (.int (Builtin.bitAnd a b))
  | _ => none
theorem bind_s {β : Type} {o : Option β} {k : β → Option α} {r : α} (h : o.bind k = some r) : ∃ x, o = some x ∧ k x = some r := Option.bind_eq_some_iff.mp h
theorem ints_s {a b : V} {k : Int → Int → Option α} {r : α} {P : V → V → Prop} (h : (intK a fun a => intK b fun b => k a b) = some r) (q : ∀ x y, k x y = some r → P (.int x) (.int y)) : P a b := by
  obtain ⟨x, ea, h⟩ := intK_s h
  obtain ⟨y, eb, h⟩ := intK_s (v := b) h
  rw [ea, eb]; exact q x y h
theorem intsb_s {a b : V} {k : Int → Int → Option Int} {K : V → Option α} {r : α} {P : V → V → Prop} (h : (intK a fun a => intK b fun b => (k a b).bind fun c => K (.int c)) = some r) (q : ∀ x y c, k x y = some c → K (.int c) = some r → P (.int x) (.int y)) : P a b :=
  ints_s h fun x y h => (bind_s h).elim fun c h => q x y c h.1 h.2
theorem binK_s {op : Operator} {a b : V} {K : V → Option α} {r : α} (h : binK op a b K = some r) : BinQ (fun v => K v = some r) op a b := by
  cases op with
  | Add => exact ints_s h fun x y h => .add h
  | Sub => cases a with
    | bool x => obtain ⟨y, rfl, h⟩ := boolK_s h; exact .subb h
    | int x => exact ints_s (a := .int x) (k := fun a b => K (.int (a - b))) h fun x y h => .sub h
    | _ => exact nope h
  | Mult => exact intsb_s h fun x y c h1 h => bq_gmul (Q := fun v => K v = some r) h1 h
  | FloorDiv => exact intsb_s h fun x y c h1 h => bq_gdiv (Q := fun v => K v = some r) h1 h
  | Mod => exact intsb_s h fun x y c h1 h => bq_gmod (Q := fun v => K v = some r) h1 h
  | LShift => exact intsb_s h fun x y c h1 h => bq_gshl (Q := fun v => K v = some r) h1 h
  | RShift => exact intsb_s h fun x y c h1 h => bq_gshr (Q := fun v => K v = some r) h1 h
  | BitAnd => exact ints_s h fun x y h => .and h
  | _ => exact nope h
noncomputable def isNotK (v : V) (K : Bool → Option α) : Option α := match v with | .none => K false | .tup _ => K true | .real _ _ => K true | _ => none
noncomputable def cmpK (op : CmpOp) (a b : V) (K : Bool → Option α) : Option α := match op with
  | .Lt => intK a fun a => intK b fun b => K (decide (a < b))
  | .LtE => intK a fun a => intK b fun b => K (decide (a ≤ b))
  | .Gt => intK a fun a => intK b fun b => K (decide (b < a))
  | .GtE => intK a fun a => intK b fun b => K (decide (b ≤ a))
  | .Eq => intK a fun a => intK b fun b => K (decide (a = b))
  | .NotEq => intK a fun a => intK b fun b => K (!decide (a = b))
  | .IsNot => noneK b (isNotK a K)
  | _ => none
theorem cmpK_s {op : CmpOp} {a b : V} {K : Bool → Option α} {r : α} (h : cmpK op a b K = some r) : CmpQ (fun v => K v = some r) op a b := by
  cases op with
  | Lt => exact ints_s h fun x y h => .lt h
  | LtE => exact ints_s h fun x y h => .le h
  | Gt => exact ints_s h fun x y h => .gt h
  | GtE => exact ints_s h fun x y h => .ge h
  | Eq => exact ints_s h fun x y h => .eq h
  | NotEq => exact ints_s h fun x y h => .ne h
  | IsNot =>
    obtain ⟨rfl, h⟩ := noneK_s h
    cases a with
    | none => exact .nn h
    | tup l => exact .nt h
    | real m e => exact .nr h
    | _ => exact nope h
  | _ => exact nope h
noncomputable def nameE (e : Expr) (k : Str → Option α) : Option α := match e with | .Name x _ => k x | _ => none
theorem nameE_s {e : Expr} {k : Str → Option α} {r : α} (h : nameE e k = some r) : ∃ x p, e = .Name x p ∧ k x = some r := by
  cases e <;> first | exact ⟨_, _, rfl, h⟩ | exact nope h
noncomputable def noStar (e : Expr) : Bool := match e with | .Starred .. => false | _ => true
theorem star_cons {e : Expr} (h : noStar e = true) (es : List Expr) (env : Env) : starEach (e :: es) env = (false, eval e env) :: starEach es env := by
  cases e <;> first | rfl | exact absurd h Bool.false_ne_true
theorem star_back {pos : Pos} {env : Env} : ∀ {es : List Expr}, es.all noStar = true → (backTo pos (starEach es env)).any (·.1) = false
  | [], _ => rfl
  | e :: es, h => by
    have h := Bool.and_eq_true_iff.mp (show (noStar e && es.all noStar) = true from h)
    rw [star_cons h.1]
    exact star_back h.2
structure Tb (α : Type) where
  ns : List (Str × NameKind)
  gs : List (Str × V)
  fs : List (Str × (List V → (V → Option α) → Option α))
  cv : V → Option (Int → Option (Option (Int × Int)))
  lm : List V → Arguments → Expr → Scope → Option (Int → Option (Option (Int × Int)))
  df : List V → Str → Arguments → List Stmt → Scope → Option (Int → Option (Option (Int × Int)))
  fl : Nat
noncomputable def lk? {β : Type} (x : Str) : List (Str × β) → Option β
  | [] => none
  | y :: ys => if Fast.sEq x y.1 = true then some y.2 else lk? x ys
theorem lk_s {β : Type} {x : Str} : ∀ {l : List (Str × β)} {b : β}, lk? x l = some b → (x, b) ∈ l
  | [], _, h => nope h
  | y :: ys, b, h => ite_c (show (if Fast.sEq x y.1 = true then some y.2 else lk? x ys) = some b from h)
    (fun e h => by rw [← Option.some.inj h, Fast.sEq_iff.mp e]; exact List.mem_cons_self ..) fun h => List.mem_cons_of_mem _ (lk_s h)
noncomputable def nmK (T : Tb α) (ρ : List V) (x : Str) (K : V → Option α) : Option α := someK (ixL x T.ns 0) fun q => match q.2 with
  | .local => someK ρ[q.1]? fun v => defK v (K v)
  | .cell => someK ρ[q.1]? fun v => defK v (K v)
  | .free => someK ρ[q.1]? fun v => defK v (K v)
  | .globalImplicit => someK (lk? x T.gs) K
  | _ => none
noncomputable def bitsOn (o : Expr) : Bool := match o with
  | .Name .. => true
  | .BinOp .. => true
  | .Call _ a _ _ => !a.isEmpty
  | .Attribute .. => true
  | _ => false
noncomputable def bvK (b : Option (Int × Int)) (K : V → Option α) : Option α := match b with | none => K .none | some p => K (.tup [.int p.1, .int p.2])
theorem bvK_s {b : Option (Int × Int)} {K : V → Option α} {r : α} (h : bvK b K = some r) : K (BV b) = some r := by
  cases b <;> exact h
noncomputable def evN (T : Tb α) (ρ : List V) (rec1 : Expr → (V → Option α) → Option α) (recL : List Expr → (List V → Option α) → Option α) (f : Expr) (args : List Expr) (pos : Pos) (K : V → Option α) : Option α := match args with
  | [] => (match f with
    | .Attribute o nm ap => if Fast.sEq nm (Str.ofString "bit_length") = true then if (bitsOn o && ap.endLine == pos.line) = true then rec1 o fun v => intK v fun a => K (.int (Builtin.Int.intBits a : Nat)) else none else none
    | _ => none)
  | e :: es => nameE f fun g => someK (ixL g T.ns 0) fun q => match q.2 with
    | .globalImplicit => someK (lk? g T.fs) fun sem => if ((e :: es).all noStar) = true then recL (e :: es) fun vs => sem vs K else none
    | .local => if (es.isEmpty && noStar e) = true then someK ρ[q.1]? fun v => someK (T.cv v) fun Fn => rec1 e fun a => intK a fun k => (Fn k).bind fun b => bvK b K else none
    | _ => none
noncomputable def small100 (kk : Int) : Bool := decide (0 ≤ kk ∧ kk < 100)
mutual
noncomputable def evE (T : Tb α) (ρ : List V) : Nat → Expr → (V → Option α) → Option α
  | 0, _, _ => none
  | n + 1, e, K => match e with
    | .Constant c _ _ => (match c with | .int i => K (.int i) | .bool b => K (.bool b) | .none => K .none | .str y => K (.str y) | _ => none)
    | .Name x _ => nmK T ρ x K
    | .BinOp l op r _ => evE T ρ n l fun a => evE T ρ n r fun b => binK op a b K
    | .UnaryOp op e _ => (match op with
      | .Not => evE T ρ n e fun v => boolK v fun b => K (.bool !b)
      | .USub => evE T ρ n e fun v => intK v fun a => K (.int (-a))
      | _ => none)
    | .Compare l ops rs _ => (match ops, rs with
      | [op], [r] => if behindInMarks op r = true then none else evE T ρ n l fun a => evE T ρ n r fun b => cmpK op a b fun c => K (.bool c)
      | _, _ => none)
    | .BoolOp op es _ => (match op, es with
      | .And, [x, y] => evE T ρ n x fun v => boolK v fun b => if b = true then evE T ρ n y K else K (.bool false)
      | _, _ => none)
    | .IfExp t b o _ => evT T ρ n t fun c => if c = true then evE T ρ n b K else evE T ρ n o K
    | .Tuple es _ _ => evL T ρ n es fun vs => if vs.length ≤ 1000 then K (.tup vs) else none
    | .List es _ => evL T ρ n es fun vs => if vs.length ≤ 1000 then K (.lst vs) else none
    | .Attribute o nm _ => nameE o fun _ => if Fast.sEq nm (Str.ofString "mantissa") = true then evE T ρ n o fun v => realK v fun a _ => K (.int a)
        else if Fast.sEq nm (Str.ofString "exponent") = true then evE T ρ n o fun v => realK v fun _ b => K (.int b) else none
    | .Subscript o i _ => (match i with
      | .Constant (.int kk) _ _ => if small100 kk = true then evE T ρ n o fun v => tupK v fun vs => someK vs[kk.toNat]? K else none
      | _ => none)
    | .Lambda params body scope _ => someK (T.lm ρ params body scope) fun Fn => K (.fn Fn)
    | .Call f args kws pos => (match kws with
      | [] => evN T ρ (evE T ρ n) (evL T ρ n) f args pos K
      | _ => none)
    | _ => none
noncomputable def evT (T : Tb α) (ρ : List V) : Nat → Expr → (Bool → Option α) → Option α
  | 0, _, _ => none
  | n + 1, e, K => match e with
    | .UnaryOp op x _ => (match op with | .Not => evT T ρ n x fun b => K (!b) | _ => none)
    | .BoolOp op es _ => evA T ρ n op es K
    | .Compare l ops rs _ => (match ops, rs with
      | [op], [r] => if behindInMarks op r = true then none else evE T ρ n l fun a => evE T ρ n r fun b => cmpK op a b K
      | _, _ => none)
    | .Name _ _ => evE T ρ n e fun v => boolK v K
    | .Call _ _ _ _ => evE T ρ n e fun v => boolK v K
    | .Constant _ _ _ => evE T ρ n e fun v => boolK v K
    | _ => none
noncomputable def evA (T : Tb α) (ρ : List V) : Nat → BoolOp → List Expr → (Bool → Option α) → Option α
  | 0, _, _, _ => none
  | n + 1, op, es, K => match es with
    | [] => (match op with | .And => K true | .Or => K false)
    | x :: es => (match op with
      | .And => evT T ρ n x fun b => if b = true then evA T ρ n .And es K else K false
      | .Or => evT T ρ n x fun b => if b = true then K true else evA T ρ n .Or es K)
noncomputable def evL (T : Tb α) (ρ : List V) : Nat → List Expr → (List V → Option α) → Option α
  | 0, _, _ => none
  | n + 1, es, K => match es with
    | [] => K []
    | e :: es => evE T ρ n e fun v => evL T ρ n es fun vs => K (v :: vs)
end
end
end Mine
end
section
namespace Mine
section
variable {α : Type} {C : Cx} {F : Fc C} {fz : Bool} {ρ : List V} {T : Tb α}
noncomputable def CallOk {C : Cx} (F : Fc C) (g : Str) (sem : List V → (V → Option α) → Option α) : Prop :=
  ∀ (fz : Bool) (ρ : List V) (i : Nat) (p pos : Pos) (e : Expr) (es : List Expr) (K : V → Option α) (r : α), F.env.scope.names[i]? = some (g, NameKind.globalImplicit) →
    starEach (e :: es) F.env = (false, eval e F.env) :: starEach es F.env → (backTo pos (starEach es F.env)).any (·.1) = false → LJ F fz ρ pos (e :: es) (fun vs => sem vs K = some r) →
    EJ F fz ρ (.Call (.Name g p) (e :: es) [] pos) fun v => K v = some r
structure TbOk {C : Cx} (F : Fc C) (fz : Bool) (T : Tb α) : Prop where
  G : C.Good
  RO : C.RealOk
  hN : F.env.scope.names = T.ns
  hc : ∀ x, T.ns.lookup x = some .cell ∨ T.ns.lookup x = some .free → ∃ c, F.env.cells.lookup x = some c
  hg : ∀ q ∈ T.gs, GlobV C q.1 q.2
  hf : ∀ q ∈ T.fs, CallOk F q.1 q.2
  hcv : ∀ v Fn, T.cv v = some Fn → v ≠ .undef ∧ ∀ (k : Int) (b : Option (Int × Int)) (Q : V → Prop), Fn k = some b → Q (BV b) → FnQ C F.n [.int k] Q v
  hlm : ∀ ρ params body scope pos Fn (Q : V → Prop), T.lm ρ params body scope = some Fn → Q (.fn Fn) → EJ F fz ρ (.Lambda params body scope pos) Q
theorem ixL_0 {x : Str} {l : List (Str × NameKind)} {j : Nat} {k : NameKind} (h : ixL x l 0 = some (j, k)) : l[j]? = some (x, k) := by
  obtain ⟨d, e, q⟩ := ixL_s l h
  rw [e, Nat.zero_add]; exact q
theorem nmK_s (O : TbOk F fz T) {x : Str} {p : Pos} {K : V → Option α} {r : α} (h : nmK T ρ x K = some r) : EJ F fz ρ (.Name x p) fun v => K v = some r := by
  obtain ⟨⟨i, k⟩, h1, h⟩ := someK_s h
  have h2 := ixL_0 h1
  rw [← O.hN] at h2
  have hl := F.kindOf h2
  have hl : F.env.scope.names.lookup x = some k := hl
  rw [O.hN] at hl
  cases k <;> first | exact nope h | skip
  · obtain ⟨v, h3, h⟩ := someK_s h
    obtain ⟨h4, h⟩ := defK_s h
    exact ej_local i h2 h3 h4 h
  · obtain ⟨v, h3, h⟩ := someK_s h
    obtain ⟨h4, h⟩ := defK_s h
    obtain ⟨c, hc⟩ := O.hc x (.inl hl)
    exact ej_cell i h2 hc h3 h4 h
  · obtain ⟨v, h3, h⟩ := someK_s h
    obtain ⟨h4, h⟩ := defK_s h
    obtain ⟨c, hc⟩ := O.hc x (.inr hl)
    exact ej_free i h2 hc h3 h4 h
  · obtain ⟨v, h3, h⟩ := someK_s h
    exact ej_glob O.G i h2 (O.hg _ (lk_s h3)) h
noncomputable def bitsF (o : Expr) (ap : Pos) (env : Env) (x : Sem Value) (y : Sem Pos) : Sem Value := do
  let ov ← x
  standAt ap.atName
  let (f, first) ← holding [ov] (calleeOf (methodCallForm 0 [] []) o env ov (Str.ofString "bit_length"))
  let callPos ← y
  callWith callPos f first (backTo callPos (starEach [] env)) []
theorem bits_base {o : Expr} {env : Env} (h : bitsOn o = true) : attributeBase o (Str.ofString "bit_length") env (eval o env) = eval o env := by
  cases o with
  | Name x p => rfl
  | BinOp l op r p => rfl
  | Attribute a x p => rfl
  | Call f a k p => cases a with
    | nil => exact absurd h Bool.false_ne_true
    | cons x a => cases f <;> rfl
  | _ => exact absurd h Bool.false_ne_true
theorem bits_pos {o : Expr} {ap pos : Pos} {env : Env} (hp : (ap.endLine == pos.line) = true) : methodCallPos (methodCallForm 0 [] []) o env ap pos = pure pos := by
  unfold methodCallPos
  rw [if_pos (by rw [hp, Bool.or_true])]
theorem bits_e {o : Expr} {ap pos : Pos} {env : Env} (h : bitsOn o = true) (hp : (ap.endLine == pos.line) = true) : eval (.Call (.Attribute o (Str.ofString "bit_length") ap) [] [] pos) env = (do
      let ov ← eval o env
      standAt ap.atName
      let (f, first) ← holding [ov] (getMethod ov (Str.ofString "bit_length") (do return (← importBound o env).getD true))
      callWith pos f first (backTo pos (starEach [] env)) []) :=
  Eq.trans (b := bitsF o ap env (eval o env) (pure pos)) (by rw [← bits_base h, ← bits_pos (o := o) (env := env) hp]; kernel_rfl) (by kernel_rfl)
structure Snd {C : Cx} (F : Fc C) (fz : Bool) (ρ : List V) (T : Tb α) (n : Nat) : Prop where
  E : ∀ e K r, evE T ρ n e K = some r → EJ F fz ρ e fun v => K v = some r
  TT : ∀ e K r, evT T ρ n e K = some r → TJ F fz ρ e fun v => K v = some r
  A : ∀ op es K r, evA T ρ n op es K = some r → AJ F fz ρ op es fun v => K v = some r
  L : ∀ pos es K r, evL T ρ n es K = some r → LJ F fz ρ pos es fun v => K v = some r
theorem ite_s {c : Bool} {X Y : Option α} {r : α} {A B : Prop} (h : (if c = true then X else Y) = some r) (h1 : X = some r → A) (h2 : Y = some r → B) : if c = true then A else B := br h h1 h2
theorem gif_s {p : Prop} [Decidable p] {X : Option α} {r : α} (h : (if p then X else none) = some r) : p ∧ X = some r := by
  split at h
  · exact ⟨by assumption, h⟩
  · cases h
theorem nif_s {p : Prop} [Decidable p] {X : Option α} {r : α} (h : (if p then none else X) = some r) : ¬ p ∧ X = some r := by
  split at h
  · cases h
  · exact ⟨by assumption, h⟩
theorem noStar_cons {e : Expr} {es : List Expr} (h : (e :: es).all noStar = true) : noStar e = true ∧ es.all noStar = true := Bool.and_eq_true_iff.mp h
theorem EJ.boolK {e : Expr} {k : Bool → Option α} {r : α} {Q : V → Prop} (h : EJ F fz ρ e fun v => Mine.boolK v k = some r) (q : ∀ b, k b = some r → Q (.bool b)) : EJ F fz ρ e Q := h.imp fun v h => by
  obtain ⟨b, rfl, h⟩ := boolK_s h; exact q b h
theorem EJ.intK {e : Expr} {k : Int → Option α} {r : α} {Q : V → Prop} (h : EJ F fz ρ e fun v => Mine.intK v k = some r) (q : ∀ b, k b = some r → Q (.int b)) : EJ F fz ρ e Q := h.imp fun v h => by
  obtain ⟨b, rfl, h⟩ := intK_s h; exact q b h
theorem EJ.realK {e : Expr} {k : Int → Int → Option α} {r : α} {Q : V → Prop} (h : EJ F fz ρ e fun v => Mine.realK v k = some r) (q : ∀ a b, k a b = some r → Q (.real a b)) : EJ F fz ρ e Q := h.imp fun v h => by
  obtain ⟨a, b, rfl, h⟩ := realK_s h; exact q a b h
theorem evN_s (O : TbOk F fz T) {rec1 : Expr → (V → Option α) → Option α} {recL : List Expr → (List V → Option α) → Option α} (hE : ∀ e K r, rec1 e K = some r → EJ F fz ρ e fun v => K v = some r) (hL : ∀ pos es K r, recL es K = some r → LJ F fz ρ pos es fun v => K v = some r)
    {f : Expr} {args : List Expr} {pos : Pos} {K : V → Option α} {r : α} (h : evN T ρ rec1 recL f args pos K = some r) : EJ F fz ρ (.Call f args [] pos) fun v => K v = some r := by
  cases args with
  | nil => cases f with
    | Attribute o nm ap =>
      obtain ⟨hq, h⟩ := gif_s h
      obtain ⟨h9, h⟩ := gif_s h
      have h9 := Bool.and_eq_true_iff.mp h9
      rw [Fast.sEq_iff.mp hq]
      exact ej_bits ((hE _ _ _ h).intK (Q := fun v => match v with | .int a => K (.int (Builtin.Int.intBits a : Nat)) = some r | _ => False) fun b h => h) (bits_e h9.1 h9.2)
    | _ => exact nope h
  | cons e es =>
    obtain ⟨g, p, rfl, h⟩ := nameE_s h
    obtain ⟨⟨i, k⟩, h1, h⟩ := someK_s h
    have h2 := ixL_0 h1
    rw [← O.hN] at h2
    cases k with
    | globalImplicit =>
      obtain ⟨sem, h3, h⟩ := someK_s h
      obtain ⟨h4, h⟩ := gif_s h
      have h5 := noStar_cons h4
      exact O.hf _ (lk_s h3) fz ρ i p pos e es K r h2 (star_cons h5.1 _ _) (star_back h5.2) (hL _ _ _ _ h)
    | «local» =>
      obtain ⟨h4, g4⟩ := gif_s h
      have h5 := Bool.and_eq_true_iff.mp h4
      obtain ⟨v, h6, g5⟩ := someK_s g4
      obtain ⟨Fn, h7, g6⟩ := someK_s g5
      obtain ⟨h8, h9⟩ := O.hcv _ _ h7
      obtain rfl := List.isEmpty_iff.mp h5.1
      exact ej_callv O.G (star_cons h5.2 _ _) rfl (ej_local i h2 h6 h8 (lj_cons (((hE _ _ _ g6).intK (Q := fun v' => FnQ C F.n [v'] _ v) fun k h => (bind_s h).elim fun b h => h9 k b _ h.1 (bvK_s h.2)).imp fun v h => lj_nil h) (star_cons h5.2 _ _)))
    | _ => exact nope h
theorem evE_s (O : TbOk F fz T) (n : Nat) (I : Snd F fz ρ T n) (e : Expr) (K : V → Option α) (r : α) (h : evE T ρ (n + 1) e K = some r) : EJ F fz ρ e fun v => K v = some r := by
  cases e with
  | BoolOp op es pos => cases op with
    | And => rcases es with _ | ⟨x, _ | ⟨y, _ | ⟨z, es⟩⟩⟩ <;> first | exact nope h | exact ej_and2 ((I.E x _ _ h).boolK (Q := BoolQ fun b => if b = true then EJ F fz ρ y _ else K (.bool false) = some r) fun b h => ite_s h (I.E _ _ _) id)
    | _ => exact nope h
  | BinOp l op r' pos => exact ej_bin ((I.E l _ _ h).imp fun a h => (I.E r' _ _ h).imp fun b h => binK_s h)
  | UnaryOp op x pos => cases op with
    | Not => exact ej_not ((I.E x _ _ h).boolK (Q := BoolQ fun b => K (.bool !b) = some r) fun b h => h)
    | USub => exact ej_neg ((I.E x _ _ h).intK (Q := fun v => match v with | .int b => K (.int (-b)) = some r | _ => False) fun b h => h)
    | _ => exact nope h
  | IfExp t b o pos =>
    exact ej_ite fun s w fi R E k => I.TT t _ _ h s w fi R E fun c s' w' hc => k c s' w' (ite_s hc (I.E _ _ _) (I.E _ _ _))
  | Compare l ops rs pos =>
    rcases ops with _ | ⟨op, _ | ⟨_, _⟩⟩ <;> first | exact nope h | skip
    rcases rs with _ | ⟨r', _ | ⟨_, _⟩⟩ <;> first | exact nope h | skip
    obtain ⟨hm, h⟩ := nif_s h
    exact ej_cmp ((I.E l _ _ h).imp fun a h => (I.E r' _ _ h).imp fun b h => cmpK_s h) (Bool.eq_false_iff.mpr hm)
  | Call f args kws pos => cases kws with
    | nil => exact evN_s O I.E I.L h
    | cons _ _ => exact nope h
  | Constant c k pos => cases c with
    | none => exact ej_none h
    | bool b => exact ej_bool h
    | int i => exact ej_int h
    | str y => exact ej_str h
    | _ => exact nope h
  | Attribute o nm pos =>
    obtain ⟨x, p, rfl, h⟩ := nameE_s h
    refine ite_c h (fun hq h => ?_) fun h => ?_
    · rw [Fast.sEq_iff.mp hq]
      exact ej_mant O.G O.RO ((I.E (.Name x p) _ _ h).realK (Q := FieldQ (fun m _ => m) fun v => K v = some r) fun a b h => h)
    · obtain ⟨hq, h⟩ := gif_s h
      rw [Fast.sEq_iff.mp hq]
      exact ej_expo O.G O.RO ((I.E (.Name x p) _ _ h).realK (Q := FieldQ (fun _ e => e) fun v => K v = some r) fun a b h => h)
  | Subscript o i pos => cases i with
    | Constant c k p => cases c with
      | int kk =>
        obtain ⟨hq, h⟩ := gif_s h
        have hq := of_decide_eq_true hq
        refine ej_item' kk.toNat (Int.toNat_of_nonneg hq.1).symm (by omega) ((I.E o _ _ h).imp fun v h => ?_)
        obtain ⟨vs, rfl, h⟩ := tupK_s h
        obtain ⟨v, h1, h⟩ := someK_s h
        exact ⟨v, h1, h⟩
      | _ => exact nope h
    | _ => exact nope h
  | Name x p => exact nmK_s O h
  | Lambda params body scope pos =>
    obtain ⟨Fn, h1, h⟩ := someK_s h
    exact O.hlm _ _ _ _ _ _ _ h1 h
  | List es pos => exact ej_list fun s w fi R E k => I.L pos es _ _ h s w fi R E fun vs xs s' w' hc => k vs xs s' w' (gif_s hc)
  | Tuple es n pos => exact ej_tuple fun s w fi R E k => I.L pos es _ _ h s w fi R E fun vs xs s' w' hc => k vs xs s' w' (gif_s hc)
  | _ => exact nope h
theorem evT_s (n : Nat) (I : Snd F fz ρ T n) (e : Expr) (K : Bool → Option α) (r : α) (h : evT T ρ (n + 1) e K = some r) : TJ F fz ρ e fun v => K v = some r := by
  have val : ∀ e : Expr, (∀ whole, isTrue e F.env whole = (do let v ← whole; standAt e.pos; holding [v] (truthy v))) → evE T ρ n e (fun v => boolK v K) = some r → TJ F fz ρ e fun v => K v = some r := fun e he h =>
    tj_value ((I.E e _ _ h).boolK (Q := BoolQ fun v => K v = some r) fun b h => h) he
  cases e with
  | BoolOp op es pos => exact tj_boolop (I.A _ _ _ _ h)
  | UnaryOp op x pos => cases op with
    | Not => exact tj_not (I.TT x _ _ h)
    | _ => exact nope h
  | Compare l ops rs pos =>
    rcases ops with _ | ⟨op, _ | ⟨_, _⟩⟩ <;> first | exact nope h | skip
    rcases rs with _ | ⟨r', _ | ⟨_, _⟩⟩ <;> first | exact nope h | skip
    obtain ⟨hm, h⟩ := nif_s h
    exact tj_cmp ((I.E l _ _ h).imp fun a h => (I.E r' _ _ h).imp fun b h => cmpK_s h) (Bool.eq_false_iff.mpr hm)
  | Call f args kws pos => exact val _ (fun _ => rfl) h
  | Constant c k pos => exact val _ (fun _ => rfl) h
  | Name x p => exact val _ (fun _ => rfl) h
  | _ => exact nope h
theorem evA_s (n : Nat) (I : Snd F fz ρ T n) (op : BoolOp) (es : List Expr) (K : Bool → Option α) (r : α) (h : evA T ρ (n + 1) op es K = some r) : AJ F fz ρ op es fun v => K v = some r := by
  cases es with
  | nil => cases op with
    | And => exact aj_and_nil h
    | Or => exact aj_or_nil h
  | cons x es => cases op with
    | And => exact aj_and_cons fun s w fi R E k => I.TT x _ _ h s w fi R E fun c s' w' hc => k c s' w' (ite_s hc (I.A _ _ _ _) id)
    | Or => exact aj_or_cons fun s w fi R E k => I.TT x _ _ h s w fi R E fun c s' w' hc => k c s' w' (ite_s hc id (I.A _ _ _ _))
theorem evE_star {n : Nat} {e : Expr} {K : V → Option α} {r : α} (h : evE T ρ n e K = some r) : noStar e = true := by
  cases n with
  | zero => exact nope h
  | succ n => cases e <;> first | rfl | exact nope h
theorem evL_s (n : Nat) (I : Snd F fz ρ T n) (pos : Pos) (es : List Expr) (K : List V → Option α) (r : α) (h : evL T ρ (n + 1) es K = some r) : LJ F fz ρ pos es fun v => K v = some r := by
  cases es with
  | nil => exact lj_nil h
  | cons e es =>
    have h : evE T ρ n e (fun v => evL T ρ n es fun vs => K (v :: vs)) = some r := h
    exact lj_cons ((I.E _ _ _ h).imp fun v h => I.L _ _ _ _ h) (star_cons (evE_star h) _ _)
theorem snd (O : TbOk F fz T) : ∀ n, Snd F fz ρ T n
  | 0 => ⟨fun _ _ _ h => nope h, fun _ _ _ h => nope h, fun _ _ _ _ h => nope h, fun _ _ _ _ h => nope h⟩
  | n + 1 => ⟨evE_s O n (snd O n), evT_s n (snd O n), evA_s n (snd O n), evL_s n (snd O n)⟩
end
end Mine
end
section
namespace Mine
section
variable {α : Type}
noncomputable def noComp (e : Expr) : Bool := match e with
  | .ListComp .. => false
  | .SetComp .. => false
  | .DictComp .. => false
  | _ => true
theorem swaps_no {e : Expr} (h : noComp e = true) (t : Option Expr) (l : Nat) (env : Env) : swapsWith e t l env = pure false := by
  cases e <;> first | rfl | exact absurd h Bool.false_ne_true
theorem swaps_sole {e : Expr} (h : noComp e = true) (t : List Expr) (l : Nat) (env : Env) : swapsWithSole t e l env = pure false := by
  cases t with
  | nil => rfl
  | cons a t => cases t with
    | nil => exact swaps_no h _ _ _
    | cons b t => rfl
noncomputable def stK (fz : Bool) (k : NameKind) : Bool := match k with | .local => true | .cell => !fz | _ => false
noncomputable def ixK (T : Tb α) (fz : Bool) (e : Expr) (k : Nat → Option α) : Option α := nameE e fun x => someK (ixL x T.ns 0) fun q => if stK fz q.2 = true then k q.1 else none
noncomputable def Tb.off (T : Tb α) : Tb α := { T with lm := fun _ _ _ _ => none }
noncomputable def ixT3 (T : Tb α) (fz : Bool) (es : List Expr) (k2 : Nat → Nat → Option α) (k3 : Nat → Nat → Nat → Option α) : Option α := match es with
  | [] => none
  | a :: es => (match es with
    | [] => none
    | b :: es => (match es with
      | [] => ixK T fz a fun i => ixK T fz b fun j => if Nat.beq i j = true then none else k2 i j
      | c :: es => (match es with
        | [] => ixK T fz a fun i => ixK T fz b fun j => ixK T fz c fun l => if (Nat.beq i j || Nat.beq i l || Nat.beq j l) = true then none else k3 i j l
        | _ => none)))
noncomputable def ixsK (T : Tb α) (fz : Bool) : List Expr → (List Nat → Option α) → Option α
  | [], k => k []
  | e :: es, k => ixK T fz e fun i => ixsK T fz es fun is => k (i :: is)
noncomputable def loopN {A : Type} (s : (A → Option α) → A → Option α) : Nat → A → Option α
  | 0, _ => none
  | m + 1, a => s (loopN s m) a
theorem loop_eq {A B : Type} {s : (B → Option α) → B → Option α} {s' : (A → Option α) → A → Option α} (f : A → B) (h : ∀ L a, s L (f a) = s' (fun a => L (f a)) a) : ∀ m, (fun a => loopN s m (f a)) = loopN s' m
  | 0 => rfl
  | m + 1 => funext fun a => (h (loopN s m) a).trans (by rw [loop_eq f h m]; rfl)
theorem loop_fn {A : Type} {s : (A → Option α) → A → Option α} (f : Nat → A → Option α) (h0 : f 0 = fun _ => none) (hs : ∀ n, s (f n) = f (n + 1)) : ∀ m, loopN s m = f m
  | 0 => h0.symm
  | m + 1 => (congrArg s (loop_fn f h0 hs m)).trans (hs m)
noncomputable def nilK {β : Type} (l : List β) (k : Option α) : Option α := match l with | [] => k | _ => none
noncomputable def isNoneK {β : Type} (l : Option β) (k : Option α) : Option α := match l with | none => k | _ => none
noncomputable def ev1 (T : Tb α) (n : Nat) (fz : Bool) (recS : List V → List Stmt → (List V → Option α) → Option α) (ρ : List V) (st : Stmt) (N D : List V → Option α) (R : V → Option α) : Option α := match st with
  | .Return e _ => (match e with | some e => evE T ρ n e R | none => none)
  | .If t b o _ => evT T.off ρ n t fun c => if c = true then recS ρ b N else recS ρ o N
  | .While t b els _ => nilK els (loopN (fun L ρ => evT T.off ρ n t fun c => if c = true then recS ρ b L else N ρ) T.fl ρ)
  | .Expr e _ => if noComp e = true then evE T.off ρ n e fun v => noneK v (N ρ) else none
  | .FunctionDef name params body decs ret tps scope doc qn _ => nilK decs (isNoneK ret (nilK tps (isNoneK doc (if Fast.sEq qn name = true then someK (ixL name T.ns 0) fun q => (match q.2 with
      | .local => someK (T.df ρ name params body scope) fun Fn => D (ρ.set q.1 (.fn Fn))
      | _ => none) else none))))
  | .Assign ts value _ => if noComp value = true then (match ts with
      | [] => none
      | t :: ts' => if Nat.beq ts'.length 1 = true then ixsK T fz (t :: ts') fun is => (match is with
          | i :: js => (match js with | j :: _ => evE T.off ρ n value fun v => N ((ρ.set i v).set j v) | _ => none)
          | _ => none) else nilK ts' (match t with
          | .Name x p => ixK T fz (.Name x p) fun i => evE T.off ρ n value fun v => N (ρ.set i v)
          | .Tuple es _ _ => if Nat.ble 4 es.length = true then ixsK T fz es fun is => evE T.off ρ n value fun v => tupK v fun vs => if Nat.beq vs.length is.length = true then N (setAll ρ is vs) else none else if constTup value = true then none else ixT3 T fz es
              (fun i j => evE T.off ρ n value fun v => tupK v fun vs => if Nat.beq vs.length 2 = true then N (setAll ρ [i, j] vs) else none)
              fun i j l => evE T.off ρ n value fun v => tupK v fun vs => if Nat.beq vs.length 3 = true then N (setAll ρ [i, j, l] vs) else none
          | _ => none)) else none
  | _ => none
noncomputable def evS (T : Tb α) (R : V → Option α) : Nat → Bool → List V → List Stmt → (List V → Option α) → Option α
  | 0, _, _, _, _ => none
  | n + 1, fz, ρ, sts, N => match sts with
    | [] => N ρ
    | st :: sts => ev1 T n fz (fun ρ sts N => evS T R n fz ρ sts N) ρ st (fun ρ => evS T R n fz ρ sts N) (fun ρ => evS T R n true ρ sts fun _ => none) R
variable {C : Cx} {F : Fc C} {fz : Bool} {T : Tb α} {ρ : List V}
theorem nilK_s {β : Type} {l : List β} {k : Option α} {r : α} (h : nilK l k = some r) : l = [] ∧ k = some r := by
  cases l with
  | nil => exact ⟨rfl, h⟩
  | cons _ _ => exact nope h
theorem isNoneK_s {β : Type} {l : Option β} {k : Option α} {r : α} (h : isNoneK l k = some r) : l = none ∧ k = some r := by
  cases l with
  | none => exact ⟨rfl, h⟩
  | some _ => exact nope h
theorem TbOk.toff (O : TbOk F true T) : TbOk F fz T.off := ⟨O.G, O.RO, O.hN, O.hc, O.hg, O.hf, O.hcv, fun _ _ _ _ _ _ _ h => nope h⟩
noncomputable def DfOk {C : Cx} (F : Fc C) (T : Tb α) : Prop := ∀ ρ name params body scope Fn i pos (N : Bool → List V → Prop) (P : V → Prop), T.df ρ name params body scope = some Fn → F.env.scope.names[i]? = some (name, NameKind.local) → N true (ρ.set i (.fn Fn)) → S1 F true ρ (.FunctionDef name params body [] none [] scope none name pos) N P
theorem ixK_s {G : Tb α} (O : TbOk F fz G) (hG : G.ns = T.ns) {e : Expr} {k : Nat → Option α} {r : α} (h : ixK T fz e k = some r) : ∃ x p i kd, e = .Name x p ∧ F.env.scope.names[i]? = some (x, kd) ∧ Storable F fz x kd ∧ k i = some r := by
  obtain ⟨x, p, rfl, h⟩ := nameE_s h
  obtain ⟨⟨i, kd⟩, h1, h⟩ := someK_s h
  obtain ⟨hs, h⟩ := gif_s h
  have h2 := ixL_0 h1
  rw [← hG, ← O.hN] at h2
  refine ⟨x, p, i, kd, rfl, h2, ?_, h⟩
  cases kd with
  | «local» => exact .inl rfl
  | cell =>
    obtain ⟨c, hc⟩ := O.hc x (.inl (by rw [← O.hN]; exact F.kindOf h2))
    have hs : (!fz) = true := hs
    exact .inr ⟨rfl, by simpa using hs, by rw [hc]; rfl⟩
  | _ => exact absurd hs Bool.false_ne_true
theorem sj_imp {sts : List Stmt} {N N' : Bool → List V → Prop} {P : V → Prop} (h : SJ F fz ρ sts N P) (k : ∀ fz' ρ', N fz' ρ' → N' fz' ρ') : SJ F fz ρ sts N' P := fun s w fi R E kn kr => h s w fi R E (fun fz' ρ' s' w' hn fi' => kn _ _ s' w' (k _ _ hn) fi') kr
theorem sj_thaw {sts : List Stmt} {N : Bool → List V → Prop} {P : V → Prop} (h : SJ F true ρ sts N P) : SJ F fz ρ sts N P := by
  cases fz with
  | false => exact sj_freeze h
  | true => exact h
theorem sj_then {st : Stmt} {sts : List Stmt} {N : Bool → List V → Prop} {P : V → Prop} {M : List V → Prop} (next : ∀ ρ', M ρ' → SJ F fz ρ' sts N P) (h : S1 F fz ρ st (fun fz' ρ' => fz' = fz ∧ M ρ') P) : SJ F fz ρ (st :: sts) N P :=
  sj_cons fun s w fi R E kn kr => h s w fi R E (fun fz' ρ' s' w' hh fi' => by obtain ⟨rfl, hh⟩ := hh; exact kn _ _ s' w' (next _ hh) fi') kr
theorem ixT_2 {a b : Expr} {k2 : Nat → Nat → Option α} {k3 : Nat → Nat → Nat → Option α} {r : α} (h : ixT3 T fz [a, b] k2 k3 = some r) : (ixK T fz a fun i => ixK T fz b fun j => if Nat.beq i j = true then none else k2 i j) = some r := h
theorem ixT_3 {a b c : Expr} {k2 : Nat → Nat → Option α} {k3 : Nat → Nat → Nat → Option α} {r : α} (h : ixT3 T fz [a, b, c] k2 k3 = some r) : (ixK T fz a fun i => ixK T fz b fun j => ixK T fz c fun l => if (Nat.beq i j || Nat.beq i l || Nat.beq j l) = true then none else k3 i j l) = some r := h
theorem not_beq {i j : Nat} {b : Bool} (h : ¬ b = true) (k : Nat.beq i j = true → b = true) : i ≠ j := fun q => h (k (by rw [q, Nat.beq_refl]))
section
variable {recS : List V → List Stmt → (List V → Option α) → Option α} {N D : List V → Option α} {NN : Bool → List V → Prop} {R : V → Option α} {r : α} {n : Nat} {sts : List Stmt}
theorem as_name (O : TbOk F true T) (next : ∀ ρ', N ρ' = some r → SJ F fz ρ' sts NN fun v => R v = some r) {x : Str} {p : Pos} {value : Expr} {pos : Pos} (hq : noComp value = true) (h : (ixK T fz (.Name x p) fun i => evE T.off ρ n value fun v => N (ρ.set i v)) = some r) :
    SJ F fz ρ (.Assign [.Name x p] value pos :: sts) NN fun v => R v = some r := by
  obtain ⟨x, p, i, kd, e, h1, h2, h⟩ := ixK_s (T := T) (TbOk.toff (fz := fz) O) rfl h
  cases e
  exact sj_then next (s1_assign i h1 h2 (swaps_no hq _ _ _) (((snd (TbOk.toff O) n).E _ _ _ h).imp fun v h => ⟨rfl, h⟩))
theorem as_two (O : TbOk F true T) (next : ∀ ρ', N ρ' = some r → SJ F fz ρ' sts NN fun v => R v = some r) {a b : Expr} {k : Nat} {p : Pos} {value : Expr} {pos : Pos} (hq : noComp value = true) (hc : constTup value = false)
    (h : (ixK T fz a fun i => ixK T fz b fun j => if Nat.beq i j = true then none else evE T.off ρ n value fun v => tupK v fun vs => if Nat.beq vs.length 2 = true then N (setAll ρ [i, j] vs) else none) = some r) :
    SJ F fz ρ (.Assign [.Tuple [a, b] k p] value pos :: sts) NN fun v => R v = some r := by
  obtain ⟨x, p1, i, kd, rfl, h1, h2, g⟩ := ixK_s (T := T) (TbOk.toff (fz := fz) O) rfl h
  obtain ⟨y, p2, j, kd', rfl, h3, h4, g'⟩ := ixK_s (T := T) (TbOk.toff (fz := fz) O) rfl g
  obtain ⟨hij, g''⟩ := nif_s g'
  refine sj_then next (s1_tup2 i j h1 h2 h3 h4 (not_beq hij id) (swaps_sole hq _ _ _) hc (((snd (TbOk.toff O) n).E _ _ _ g'').imp fun v h => ?_))
  obtain ⟨vs, rfl, h⟩ := tupK_s h
  obtain ⟨hl, h⟩ := gif_s h
  exact ⟨Nat.eq_of_beq_eq_true hl, rfl, h⟩
theorem ixsK_s (O : TbOk F true T) : ∀ {es : List Expr} {k : List Nat → Option α}, ixsK T fz es k = some r → ∃ is, TNames F fz es is ∧ k is = some r
  | [], k, h => ⟨[], .nil, h⟩
  | e :: es, k, h => by
    obtain ⟨x, p, i, kd, rfl, h1, h2, g⟩ := ixK_s (T := T) (TbOk.toff (fz := fz) O) rfl (show ixK T fz e (fun i => ixsK T fz es fun is => k (i :: is)) = some r from h)
    obtain ⟨is, h3, g⟩ := ixsK_s O g
    exact ⟨i :: is, .cons h1 h2 h3, g⟩
theorem as_many (O : TbOk F true T) (next : ∀ ρ', N ρ' = some r → SJ F fz ρ' sts NN fun v => R v = some r) {es : List Expr} {k : Nat} {p : Pos} {value : Expr} {pos : Pos} (hq : noComp value = true) (hl : Nat.ble 4 es.length = true)
    (h : (ixsK T fz es fun is => evE T.off ρ n value fun v => tupK v fun vs => if Nat.beq vs.length is.length = true then N (setAll ρ is vs) else none) = some r) :
    SJ F fz ρ (.Assign [.Tuple es k p] value pos :: sts) NN fun v => R v = some r := by
  obtain ⟨is, ht, g⟩ := ixsK_s O h
  have hl := Nat.le_of_ble_eq_true hl
  refine sj_then next (s1_tup is ht (swaps_sole hq _ _ _) (swapped_none_len (Nat.ne_of_gt (Nat.lt_of_lt_of_le (by decide) hl)) (Nat.ne_of_gt (Nat.lt_of_lt_of_le (by decide) hl))) (((snd (TbOk.toff O) n).E _ _ _ g).imp fun v h => ?_))
  obtain ⟨vs, rfl, h⟩ := tupK_s h
  obtain ⟨hl, h⟩ := gif_s h
  exact ⟨Nat.eq_of_beq_eq_true hl, rfl, h⟩
theorem swapped_two {x y : Str} {p q : Pos} {value : Expr} {env : Env} : swappedStores [.Name x p, .Name y q] value env = pure none := rfl
theorem as_both (O : TbOk F true T) (next : ∀ ρ', N ρ' = some r → SJ F fz ρ' sts NN fun v => R v = some r) {a b value : Expr} {pos : Pos}
    (h : (ixsK T fz [a, b] fun is => (match is with
          | i :: js => (match js with | j :: _ => evE T.off ρ n value fun v => N ((ρ.set i v).set j v) | _ => none)
          | _ => none)) = some r) : SJ F fz ρ (.Assign [a, b] value pos :: sts) NN fun v => R v = some r := by
  obtain ⟨is, ht, g⟩ := ixsK_s O h
  cases ht with
  | cons h1 h2 ht => cases ht with
    | cons h3 h4 ht => exact sj_then next (s1_assign2 _ _ h1 h2 h3 h4 swapped_two (((snd (TbOk.toff O) n).E _ _ _ g).imp fun v h => ⟨rfl, h⟩))
theorem as_three (O : TbOk F true T) (next : ∀ ρ', N ρ' = some r → SJ F fz ρ' sts NN fun v => R v = some r) {a b c : Expr} {k : Nat} {p : Pos} {value : Expr} {pos : Pos} (hq : noComp value = true) (hc : constTup value = false)
    (h : (ixK T fz a fun i => ixK T fz b fun j => ixK T fz c fun l => if (Nat.beq i j || Nat.beq i l || Nat.beq j l) = true then none else evE T.off ρ n value fun v => tupK v fun vs => if Nat.beq vs.length 3 = true then N (setAll ρ [i, j, l] vs) else none) = some r) :
    SJ F fz ρ (.Assign [.Tuple [a, b, c] k p] value pos :: sts) NN fun v => R v = some r := by
  obtain ⟨x, p1, i, kd, rfl, h1, h2, g⟩ := ixK_s (T := T) (TbOk.toff (fz := fz) O) rfl h
  obtain ⟨y, p2, j, kd', rfl, h3, h4, g'⟩ := ixK_s (T := T) (TbOk.toff (fz := fz) O) rfl g
  obtain ⟨z, p3, l, kd'', rfl, h5, h6, g''⟩ := ixK_s (T := T) (TbOk.toff (fz := fz) O) rfl g'
  obtain ⟨hij, g3⟩ := nif_s g''
  refine sj_then next (s1_tup3 i j l h1 h2 h3 h4 h5 h6 (not_beq hij fun q => by rw [q]; rfl) (not_beq hij fun q => by rw [q, Bool.or_true]; rfl) (not_beq hij fun q => by rw [q, Bool.or_true]) (swaps_sole hq _ _ _) hc (((snd (TbOk.toff O) n).E _ _ _ g3).imp fun v h => ?_))
  obtain ⟨vs, rfl, h⟩ := tupK_s h
  obtain ⟨hl, h⟩ := gif_s h
  exact ⟨Nat.eq_of_beq_eq_true hl, rfl, h⟩
theorem ev_def (O : TbOk F true T) (HD : DfOk F T) (dnext : ∀ ρ', D ρ' = some r → SJ F true ρ' sts NN fun v => R v = some r) {name : Str} {params : Arguments} {body : List Stmt} {decs : List Expr} {ret doc} {tps} {scope : Scope} {qn : Str} {pos : Pos}
    (h : ev1 T n fz recS ρ (.FunctionDef name params body decs ret tps scope doc qn pos) N D R = some r) : SJ F fz ρ (.FunctionDef name params body decs ret tps scope doc qn pos :: sts) NN fun v => R v = some r := by
  obtain ⟨rfl, h⟩ := nilK_s h
  obtain ⟨rfl, h⟩ := isNoneK_s h
  obtain ⟨rfl, h⟩ := nilK_s h
  obtain ⟨rfl, h⟩ := isNoneK_s h
  obtain ⟨hq, h⟩ := gif_s h
  obtain ⟨⟨i, kd⟩, h1, h⟩ := someK_s h
  have h2 := ixL_0 h1
  rw [← O.hN] at h2
  cases kd with
  | «local» =>
    obtain ⟨Fn, h3, h⟩ := someK_s h
    rw [Fast.sEq_iff.mp hq]
    exact sj_thaw (sj_cons (HD _ _ _ _ _ Fn i pos _ _ h3 h2 (dnext _ h)))
  | _ => exact nope h
theorem ev_while (O : TbOk F true T) (hrec : ∀ ρ sts N, recS ρ sts N = some r → SJ F fz ρ sts (fun fz' ρ' => fz' = fz ∧ N ρ' = some r) fun v => R v = some r) (next : ∀ ρ', N ρ' = some r → SJ F fz ρ' sts NN fun v => R v = some r)
    {t : Expr} {b : List Stmt} {pos : Pos} {m : Nat} (h : loopN (fun L ρ => evT T.off ρ n t fun c => if c = true then recS ρ b L else N ρ) m ρ = some r) : SJ F fz ρ (.While t b [] pos :: sts) NN fun v => R v = some r := by
  refine sj_then next (s1_while (fun k ρ => loopN (fun L ρ => evT T.off ρ n t fun c => if c = true then recS ρ b L else N ρ) k ρ = some r) m h fun k ρ' hk => ?_)
  cases k with
  | zero => exact nope hk
  | succ k => exact fun s w fi R' E kk => (snd (TbOk.toff O) n).TT _ _ _ hk s w fi R' E fun c s' w' hc => kk c s' w' (ite_s hc (fun h => sj_imp (hrec _ _ _ h) fun fz' ρ'' q => ⟨q.1, k, Nat.lt_succ_self k, q.2⟩) fun h => ⟨rfl, h⟩)
theorem ev1_s (O : TbOk F true T) (HD : DfOk F T) (hrec : ∀ ρ sts N, recS ρ sts N = some r → SJ F fz ρ sts (fun fz' ρ' => fz' = fz ∧ N ρ' = some r) fun v => R v = some r) (next : ∀ ρ', N ρ' = some r → SJ F fz ρ' sts NN fun v => R v = some r)
    (dnext : ∀ ρ', D ρ' = some r → SJ F true ρ' sts NN fun v => R v = some r) {st : Stmt} (h : ev1 T n fz recS ρ st N D R = some r) : SJ F fz ρ (st :: sts) NN fun v => R v = some r := by
  cases st with
  | Return e pos => cases e with
    | none => exact nope h
    | some e => exact sj_thaw (sj_cons (s1_ret ((snd O n).E _ _ _ h)))
  | If t b o pos => exact sj_then next (s1_if fun s w fi R' E k => (snd (TbOk.toff O) n).TT _ _ _ h s w fi R' E fun c s' w' hc => k c s' w' (ite_s hc (hrec ρ b N) (hrec ρ o N)))
  | Expr e pos =>
    obtain ⟨hq, h⟩ := gif_s h
    refine sj_then next (s1_expr (((snd (TbOk.toff O) n).E _ _ _ h).imp fun v h => ?_) (interactive_no F) (swaps_no hq _ _ _))
    obtain ⟨rfl, h⟩ := noneK_s h
    exact ⟨rfl, h⟩
  | While t b els pos =>
    obtain ⟨rfl, h⟩ := nilK_s h
    exact ev_while O hrec next h
  | FunctionDef name params body decs ret tps scope doc qn pos => exact ev_def O HD dnext h
  | Assign ts value pos =>
    obtain ⟨hq, h⟩ := gif_s h
    cases ts with
    | nil => exact nope h
    | cons t ts =>
      refine ite_c h (fun hl h => ?_) fun h => ?_
      · cases ts with
        | nil => exact absurd hl Bool.false_ne_true
        | cons u ts => cases ts with
          | nil => exact as_both O next h
          | cons _ _ => exact absurd hl Bool.false_ne_true
      obtain ⟨rfl, h⟩ := nilK_s h
      cases t with
      | Name x p => exact as_name O next hq h
      | Tuple es k p =>
        refine ite_c h (fun hl h => as_many O next hq hl h) fun h => ?_
        obtain ⟨hc, h⟩ := nif_s h
        have hc := Bool.eq_false_iff.mpr hc
        cases es with
        | nil => exact nope h
        | cons a es => cases es with
          | nil => exact nope h
          | cons b es => cases es with
            | nil => exact as_two O next hq hc (ixT_2 h)
            | cons c es => cases es with
              | nil => exact as_three O next hq hc (ixT_3 h)
              | cons _ _ => exact nope h
      | _ => exact nope h
  | _ => exact nope h
end
theorem evS_s (O : TbOk F true T) (HD : DfOk F T) {R : V → Option α} {r : α} : ∀ (n : Nat) (fz : Bool) (ρ : List V) (sts : List Stmt) (N : List V → Option α), evS T R n fz ρ sts N = some r →
    SJ F fz ρ sts (fun fz' ρ' => fz' = fz ∧ N ρ' = some r) fun v => R v = some r
  | 0, _, _, _, _, h => nope h
  | n + 1, fz, ρ, sts, N, h => by
    cases sts with
    | nil => exact sj_nil ⟨rfl, h⟩
    | cons st sts => exact ev1_s (R := R) (r := r) (n := n) O HD (fun ρ sts N => evS_s O HD n fz ρ sts N) (fun ρ' => evS_s O HD n fz ρ' sts N) (fun ρ' h => sj_imp (evS_s O HD n true ρ' sts _ h) fun _ _ h => nope h.2) h
end
end Mine
end
section
namespace Mine
section
variable {α : Type}
noncomputable def strK (v : V) (k : Str → Option α) : Option α := match v with | .str a => k a | _ => none
theorem strK_s {v : V} {k : Str → Option α} {r : α} (h : strK v k = some r) : ∃ a, v = .str a ∧ k a = some r := by
  cases v <;> first | exact ⟨_, rfl, h⟩ | exact nope h
noncomputable def aI (k : Int → List V → Option α) (vs : List V) : Option α := match vs with | [] => none | v :: vs => intK v fun a => k a vs
noncomputable def aB (k : Bool → List V → Option α) (vs : List V) : Option α := match vs with | [] => none | v :: vs => boolK v fun a => k a vs
noncomputable def aS (k : Str → List V → Option α) (vs : List V) : Option α := match vs with | [] => none | v :: vs => strK v fun a => k a vs
noncomputable def aR (k : Int → Int → List V → Option α) (vs : List V) : Option α := match vs with | [] => none | v :: vs => realK v fun a b => k a b vs
noncomputable def aT (k : Int → Int → List V → Option α) (vs : List V) : Option α := match vs with | [] => none | v :: vs => tupK v fun l => aI (fun a l => aI (fun b l => match l with | [] => k a b vs | _ => none) l) l
noncomputable def a0 (o : Option α) (vs : List V) : Option α := match vs with | [] => o | _ => none
theorem aI_s {k : Int → List V → Option α} {vs : List V} {r : α} (h : aI k vs = some r) : ∃ a l, vs = .int a :: l ∧ k a l = some r := by
  cases vs with
  | nil => exact nope h
  | cons v vs => obtain ⟨a, rfl, h⟩ := intK_s h; exact ⟨a, vs, rfl, h⟩
theorem aB_s {k : Bool → List V → Option α} {vs : List V} {r : α} (h : aB k vs = some r) : ∃ a l, vs = .bool a :: l ∧ k a l = some r := by
  cases vs with
  | nil => exact nope h
  | cons v vs => obtain ⟨a, rfl, h⟩ := boolK_s h; exact ⟨a, vs, rfl, h⟩
theorem aS_s {k : Str → List V → Option α} {vs : List V} {r : α} (h : aS k vs = some r) : ∃ a l, vs = .str a :: l ∧ k a l = some r := by
  cases vs with
  | nil => exact nope h
  | cons v vs => obtain ⟨a, rfl, h⟩ := strK_s h; exact ⟨a, vs, rfl, h⟩
theorem aR_s {k : Int → Int → List V → Option α} {vs : List V} {r : α} (h : aR k vs = some r) : ∃ a b l, vs = .real a b :: l ∧ k a b l = some r := by
  cases vs with
  | nil => exact nope h
  | cons v vs => obtain ⟨a, b, rfl, h⟩ := realK_s h; exact ⟨a, b, vs, rfl, h⟩
theorem a0_s {o : Option α} {vs : List V} {r : α} (h : a0 o vs = some r) : vs = [] ∧ o = some r := by
  cases vs with
  | nil => exact ⟨rfl, h⟩
  | cons v vs => exact nope h
theorem aT_s {k : Int → Int → List V → Option α} {vs : List V} {r : α} (h : aT k vs = some r) : ∃ a b l, vs = .tup [.int a, .int b] :: l ∧ k a b l = some r := by
  cases vs with
  | nil => exact nope h
  | cons v vs =>
    obtain ⟨l, rfl, h⟩ := tupK_s h
    obtain ⟨a, l, rfl, h⟩ := aI_s h
    obtain ⟨b, l, rfl, h⟩ := aI_s h
    cases l with
    | nil => exact ⟨a, b, vs, rfl, h⟩
    | cons _ _ => exact nope h
noncomputable def rI (v : V) : Option Int := intK v some
noncomputable def rB (v : V) : Option Bool := boolK v some
noncomputable def rN (v : V) : Option Unit := noneK v (some ())
noncomputable def rR (v : V) : Option (Int × Int) := realK v fun a b => some (a, b)
noncomputable def rT (v : V) : Option (Int × Int) := aT (fun a b l => match l with | [] => some (a, b) | _ => none) [v]
theorem rI_s {v : V} {r : Int} (h : rI v = some r) : v = .int r := by obtain ⟨a, rfl, h⟩ := intK_s h; cases h; rfl
theorem rB_s {v : V} {r : Bool} (h : rB v = some r) : v = .bool r := by obtain ⟨a, rfl, h⟩ := boolK_s h; cases h; rfl
theorem rN_s {v : V} {r : Unit} (h : rN v = some r) : v = .none := (noneK_s h).1
theorem rR_s {v : V} {r : Int × Int} (h : rR v = some r) : v = .real r.1 r.2 := by obtain ⟨a, b, rfl, h⟩ := realK_s h; cases h; rfl
theorem rT_s {v : V} {r : Int × Int} (h : rT v = some r) : v = .tup [.int r.1, .int r.2] := by obtain ⟨a, b, l, e, h⟩ := aT_s h; cases e; cases h; rfl
noncomputable def rP (v : V) : Option (Int × Int × Int) := tupK v fun l => aI (fun a l => aT (fun b c l => match l with | [] => some (a, b, c) | _ => none) l) l
theorem rP_s {v : V} {r : Int × Int × Int} (h : rP v = some r) : v = .tup [.int r.1, .tup [.int r.2.1, .int r.2.2]] := by
  obtain ⟨l, rfl, h⟩ := tupK_s h
  obtain ⟨a, l, rfl, h⟩ := aI_s h
  obtain ⟨b, c, l, rfl, h⟩ := aT_s h
  cases l with
  | nil => cases h; rfl
  | cons _ _ => exact nope h
noncomputable def rV (v : V) : Option (Option (Int × Int)) := match v with | .none => some none | v => (rT v).bind fun x => some (some x)
theorem rV_s {v : V} {r : Option (Int × Int)} (h : rV v = some r) : v = BV r := by
  have t : ∀ {v : V}, (rT v).bind (fun x => some (some x)) = some r → v = BV r := fun h => by
    obtain ⟨x, h1, h⟩ := bind_s h
    cases h
    exact rT_s h1
  cases v <;> first | exact t h | (cases h; rfl)
noncomputable def rO (v : V) : Option (Option (Int × Int)) := match v with | .none => some none | .real a b => some (some (a, b)) | _ => none
theorem rO_s {v : V} {r : Option (Int × Int)} (h : rO v = some r) : v = RV r := by
  cases v <;> first | exact nope h | (cases h; rfl)
noncomputable abbrev Sem' (α : Type) := List V → (V → Option α) → Option α
variable {C : Cx}
theorem callOk_of (H : C.All) {F : Fc C} {g : Str} {sem : Sem' α} (gc : GCall C g) (h : ∀ vs K r, sem vs K = some r → ∃ v n, K v = some r ∧ n ≤ F.n ∧ Spec C n g vs (fun x => x = v)) : CallOk F g sem := fun fz ρ i p pos e es K r hn he hp L =>
  ej_call H.G i hn he hp gc fun s w fi R E k => L s w fi R E fun vs xs s' w' hv => k vs xs s' w' (by
    obtain ⟨v, n, h1, h2, h3⟩ := h vs K r hv
    exact (h3.up h2).imp fun x e => e ▸ h1)
theorem bcallOk_of (H : C.All) {F : Fc C} {g : Str} {id : String} {sem : Sem' α} (hb : bootBuiltins g = some (.builtin id)) (hne : g ≠ "__name__") (hg : nsIn C.K mainGlobals g = some none) (h : ∀ vs K r, sem vs K = some r → BCall C id vs fun v => K v = some r) : CallOk F g sem := fun fz ρ i p pos e es K r hn he hp L =>
  ej_bcall H.G i id hn hb hne hg he hp fun s w fi R E k => L s w fi R E fun vs xs s' w' hv => k vs xs s' w' (h vs K r hv)
theorem fs0 {β : Type} {P : β → Prop} : ∀ q ∈ ([] : List β), P q := fun _ h => nomatch h
theorem fs1 {β : Type} {P : β → Prop} {a : β} {l : List β} (h : P a) (hs : ∀ q ∈ l, P q) : ∀ q ∈ a :: l, P q := List.forall_mem_cons.mpr ⟨h, hs⟩
noncomputable def plainArgs (a : Arguments) : Bool := a.posonlyargs.isEmpty && a.vararg.isNone && a.kwonlyargs.isEmpty && a.kw_defaults.isEmpty && a.kwarg.isNone && a.defaults.isEmpty
noncomputable def notFree (q : Str × NameKind) : Bool := match q.2 with | .free => false | _ => true
theorem qual_in {F : Fc C} {ns : List (Str × NameKind)} {x : Str} (hN : F.env.scope.names = ns) (h : (ns.lookup x == some NameKind.globalExplicit) = false) : qualnameIn F.env x x = F.env.qual ++ x := by
  unfold qualnameIn Env.kindOf; rw [hN, h]; rfl
theorem free_no {x : Str} {l : List (Str × NameKind)} (h : l.all notFree = true) (e : l.lookup x = some .free) : False := Bool.false_ne_true (List.all_eq_true.mp h _ (mem_of_lookup e))
theorem plain_eq {a : Arguments} (h : plainArgs a = true) : a = ⟨[], a.args, none, [], [], none, []⟩ := by
  obtain ⟨po, as, va, ko, kd, kw, df⟩ := a
  unfold plainArgs at h
  simp only [Bool.and_eq_true, List.isEmpty_iff, Option.isNone_iff_eq_none] at h
  obtain ⟨⟨⟨⟨⟨rfl, rfl⟩, rfl⟩, rfl⟩, rfl⟩, rfl⟩ := h
  rfl
noncomputable def fdAt (fd : FuncData) (a : Arguments) : FuncData := { fd with params := a, defaults := .none, kwdefaults := .none }
theorem fd_eq {fd : FuncData} {a : Arguments} (e1 : fd.params = a) (e2 : fd.defaults = .none) (e3 : fd.kwdefaults = .none) : fd = fdAt fd a := by
  obtain ⟨nm, qn, pr, bd, sc, gl, cl, df, kd, dc, pm, an, cdv, ct, bl⟩ := fd
  cases e1; cases e2; cases e3; rfl
noncomputable def Cur (β : Type) : Nat → Type
  | 0 => β
  | m + 1 => Value → Cur β m
noncomputable def cur {β : Type} : (m : Nat) → (List Value → β) → Cur β m
  | 0, f => f []
  | m + 1, f => fun x => cur m fun xs => f (x :: xs)
theorem cur_s {β : Type} : ∀ (m : Nat) {f g : List Value → β}, cur m f = cur m g → ∀ xs, xs.length = m → f xs = g xs
  | 0, f, g, h, xs, e => by rw [List.length_eq_zero_iff.mp e]; exact h
  | m + 1, f, g, h, xs, e => by
    cases xs with
    | nil => cases e
    | cons x xs => exact cur_s m (congrFun h x) xs (Nat.succ.inj e)
noncomputable def hbL (a : Arguments) (m : Nat) (fd : FuncData) : Cur (Sem (List (Str × Value))) m := cur m fun xs => bindArgs (fdAt fd a) ⟨xs, []⟩
noncomputable def hbR (a : Arguments) (m : Nat) (_ : FuncData) : Cur (Sem (List (Str × Value))) m := cur m fun xs => pure ((a.args.map (·.arg)).zip xs)
theorem hb_of {a : Arguments} {m : Nat} (h : hbL a m = hbR a m) (fd : FuncData) (e1 : fd.params = a) (e2 : fd.defaults = .none) (e3 : fd.kwdefaults = .none) (xs : List Value) (hx : xs.length = m) : bindArgs fd ⟨xs, []⟩ = pure ((a.args.map (·.arg)).zip xs) := by
  rw [fd_eq e1 e2 e3]
  exact cur_s m (congrFun h fd) xs hx
theorem bind_work (fd : FuncData) (an : Option Expr) (p : Pos) (x : Value) : bindArgs (fdAt fd ⟨[], [⟨Str.ofString "work", an, p⟩], none, [], [], none, []⟩) ⟨[x], []⟩ = pure [(Str.ofString "work", x)] := by kernel_rfl
noncomputable def capV (ns : List (Str × NameKind)) (ρ : List V) (p : Str) (k : Int) (q : Str × NameKind) : V := match q.2 with
  | .local => if Fast.sEq q.1 p = true then .int k else .undef
  | .free => (match ixL q.1 ns 0 with
    | some (j, .cell) => (match ρ[j]? with | some v => v | none => .undef)
    | _ => .undef)
  | _ => .undef
noncomputable def inT (gs : List (Str × V)) (fi : List (Str × Sem' (Option (Int × Int)))) (scope : Scope) : Tb (Option (Int × Int)) := ⟨scope.names, gs, fi, fun _ => none, fun _ _ _ _ => none, fun _ _ _ _ _ => none, 0⟩
noncomputable def argK {β : Type} (params : Arguments) (k : Str → Option β) : Option β := match params.args with
  | [] => none
  | a :: as => nilK as (isNoneK a.annotation (if Fast.sEq a.arg (Str.ofString "work") = true then k a.arg else none))
noncomputable def inOk (ns : List (Str × NameKind)) (params : Arguments) (scope : Scope) (p : Str) : Bool := plainArgs params && checkInner scope p && scope.names.all (fun p => !(p.2 == .free) || ns.lookup p.1 == some .cell)
noncomputable def lamF (ns : List (Str × NameKind)) (gs : List (Str × V)) (fi : List (Str × Sem' (Option (Int × Int)))) (inn : Str) (ρ : List V) (params : Arguments) (body : Expr) (scope : Scope) : Option (Int → Option (Option (Int × Int))) :=
  argK params fun p => if (inOk ns params scope p && Fast.sEq inn (Str.ofString "<lambda>")) = true then some fun k => evE (inT gs fi scope) (scope.names.map (capV ns ρ p k)) 60 body rV else none
noncomputable def defF (ns : List (Str × NameKind)) (gs : List (Str × V)) (fi : List (Str × Sem' (Option (Int × Int)))) (inn : Str) (ρ : List V) (name : Str) (params : Arguments) (body : List Stmt) (scope : Scope) : Option (Int → Option (Option (Int × Int))) :=
  argK params fun p => if (inOk ns params scope p && Fast.sEq inn name && !(ns.lookup name == some .globalExplicit)) = true then some fun k => evS (inT gs fi scope) rV 60 false (scope.names.map (capV ns ρ p k)) body (fun _ => none) else none
section
variable {ns : List (Str × NameKind)} {gs : List (Str × V)} {fi : List (Str × Sem' (Option (Int × Int)))} {inn : Str} {F : Fc C} {ρ : List V}
theorem cap_ok (hN : F.env.scope.names = ns) {p : Str} {k : Int} : ∀ l : List (Str × NameKind), CapOk F ρ p k l (l.map (capV ns ρ p k))
  | [] => trivial
  | (x, kd) :: l => ⟨by
      cases kd with
      | «local» =>
        by_cases h : Fast.sEq x p = true
        · exact .inr (.inl ⟨rfl, Fast.sEq_iff.mp h, if_pos h⟩)
        · exact .inl (if_neg h)
      | free =>
        show (match ixL x ns 0 with | some (j, .cell) => (match ρ[j]? with | some v => v | none => .undef) | _ => .undef) = V.undef ∨ _
        cases h : ixL x ns 0 with
        | none => exact .inl rfl
        | some q =>
          obtain ⟨j, kd⟩ := q
          cases kd with
          | cell =>
            cases h2 : ρ[j]? with
            | none => exact .inl (by show (match ρ[j]? with | some v => v | none => V.undef) = .undef; rw [h2])
            | some v => exact .inr (.inr ⟨rfl, j, by rw [hN]; exact ixL_0 h, by rw [h2]; refine congrArg some ?_; unfold capV; dsimp only; rw [h]; dsimp only; rw [h2]⟩)
          | _ => exact .inl rfl
      | _ => exact .inl rfl, cap_ok hN l⟩
theorem argK_s {β : Type} {params : Arguments} {k : Str → Option β} {r : β} (h : argK params k = some r) : ∃ a, params.args = [a] ∧ a.annotation = none ∧ a.arg = Str.ofString "work" ∧ k a.arg = some r := by
  unfold argK at h
  split at h
  · exact nope h
  · rename_i a as e
    obtain ⟨rfl, h⟩ := nilK_s h
    obtain ⟨h1, h⟩ := isNoneK_s h
    obtain ⟨h2, h⟩ := gif_s h
    exact ⟨a, e, h1, Fast.sEq_iff.mp h2, h⟩
theorem bind_w {a : Arguments} (h : plainArgs a = true) {b : Arg} (hb : a.args = [b]) (hw : b.arg = Str.ofString "work") (fd : FuncData) (e1 : fd.params = a) (e2 : fd.defaults = .none) (e3 : fd.kwdefaults = .none) (x : Value) : bindArgs fd ⟨[x], []⟩ = pure [(b.arg, x)] := by
  rw [fd_eq e1 e2 e3, plain_eq h, hb]
  obtain ⟨b, an, p⟩ := b
  cases hw
  exact bind_work fd an p x
theorem inT_ok (H : C.All) {F' : Fc C} {fz : Bool} (scope : Scope) (hsc : F'.env.scope = scope) (hfr : ∀ x, (x, NameKind.free) ∈ scope.names → (F'.env.cells.lookup x).isSome = true) (hnc : ∀ x ∈ scope.names, x.2 ≠ .cell)
    (hg : ∀ q ∈ gs, GlobV C q.1 q.2) (hf : ∀ q ∈ fi, CallOk F' q.1 q.2) : TbOk F' fz (inT gs fi scope) :=
  ⟨H.G, H.RO, by rw [hsc]; rfl, fun x hx => hx.elim (fun h => absurd rfl (hnc _ (mem_of_lookup h))) fun h => Option.isSome_iff_exists.mp (hfr x (mem_of_lookup h)), hg, hf, fun _ _ h => nope h, fun _ _ _ _ _ _ _ h => nope h⟩
theorem lam_s (H : C.All) (hN : F.env.scope.names = ns) (hcl : ∀ x, F.env.scope.names.lookup x = some NameKind.cell → (F.env.cells.lookup x).isSome = true) (hco : ∃ c P, F.env.code = .ref c ∧ (c, P, F.env.qual ++ inn) ∈ C.tabs)
    (hg : ∀ q ∈ gs, GlobV C q.1 q.2) (hf : ∀ F' : Fc C, F'.n = fnRoom - 1 → ∀ q ∈ fi, CallOk F' q.1 q.2) {params : Arguments} {body : Expr} {scope : Scope} {pos : Pos} {Fn} {Q : V → Prop} (h : lamF ns gs fi inn ρ params body scope = some Fn) (q : Q (.fn Fn)) : EJ F true ρ (.Lambda params body scope pos) Q := by
  obtain ⟨a, ha, ha2, hw, h⟩ := argK_s h
  obtain ⟨h1, h⟩ := gif_s h
  have h1 := Bool.and_eq_true_iff.mp h1
  have h2 := Bool.and_eq_true_iff.mp h1.1
  have h3 := Bool.and_eq_true_iff.mp h2.1
  obtain ⟨c, P, hc, ht⟩ := hco
  rw [Fast.sEq_iff.mp h1.2] at ht
  obtain rfl := Option.some.inj h
  have hi := innerOk_of h3.2
  refine ej_lambda H.G (p := a.arg) _ (by rw [plain_eq h3.1]; rfl) hc ht hcl (sub_of hN h2.2) hi (bind_w h3.1 ha hw) (fun k b hb => ⟨_, cap_ok hN _, fun F' hn hsc hfr => ?_⟩) q
  exact ((snd (inT_ok H scope hsc hfr hi.nocell hg (hf F' hn)) 60).E _ _ _ hb).imp fun v h => rV_s h
theorem def_s (H : C.All) (hN : F.env.scope.names = ns) (hcl : ∀ x, F.env.scope.names.lookup x = some NameKind.cell → (F.env.cells.lookup x).isSome = true) (hco : ∃ c P, F.env.code = .ref c ∧ (c, P, F.env.qual ++ inn) ∈ C.tabs)
    (hg : ∀ q ∈ gs, GlobV C q.1 q.2) (hf : ∀ F' : Fc C, F'.n = fnRoom - 1 → ∀ q ∈ fi, CallOk F' q.1 q.2) {name : Str} {params : Arguments} {body : List Stmt} {scope : Scope} {pos : Pos} {Fn} {i : Nat} {N : Bool → List V → Prop} {P : V → Prop} (h : defF ns gs fi inn ρ name params body scope = some Fn)
    (hn : F.env.scope.names[i]? = some (name, NameKind.local)) (q : N true (ρ.set i (.fn Fn))) : S1 F true ρ (.FunctionDef name params body [] none [] scope none name pos) N P := by
  obtain ⟨a, ha, ha2, hw, h⟩ := argK_s h
  obtain ⟨h1, h⟩ := gif_s h
  have h0 := Bool.and_eq_true_iff.mp h1
  have h1 := Bool.and_eq_true_iff.mp h0.1
  have h2 := Bool.and_eq_true_iff.mp h1.1
  have h3 := Bool.and_eq_true_iff.mp h2.1
  obtain ⟨c, P, hc, ht⟩ := hco
  rw [Fast.sEq_iff.mp h1.2] at ht
  obtain rfl := Option.some.inj h
  have hi := innerOk_of h3.2
  refine s1_def H.G i (p := a.arg) _ hn (by rw [plain_eq h3.1]) (by rw [plain_eq h3.1]) (by rw [plain_eq h3.1, ha]; obtain ⟨x, y, z⟩ := a; cases ha2; rfl) (qual_in hN (by simpa using h0.2)) hc ht hcl (sub_of hN h2.2) hi (bind_w h3.1 ha hw) (fun k b hb => ⟨_, cap_ok hN _, fun F' hn hsc hfr => ?_⟩) q
  have J := evS_s (inT_ok H scope hsc hfr hi.nocell hg (hf F' hn)) (fun _ _ _ _ _ _ _ _ _ _ h => nope h) _ _ _ _ _ hb
  exact fun s w fi R E kn kr => J s w fi R E (fun _ _ _ _ hh _ => nope hh.2) fun v x fz' ρ' s' w' hp => kr v x fz' ρ' s' w' (rV_s hp)
end
noncomputable def okAt (i m : Nat) : Bool := checkScope (defAt i).2.2 (psAt i) && Nat.beq (psAt i).length m && !(defAt i).2.2.names.isEmpty && !(defAt i).2.1.isEmpty && (defAt i).2.2.names.all notFree
structure OkAt (i m : Nat) : Prop where
  sc : checkScope (defAt i).2.2 (psAt i) = true
  len : (psAt i).length = m
  ns : ∃ p t, (defAt i).2.2.names = p :: t
  bd : ∃ p t, (defAt i).2.1 = p :: t
  fr : (defAt i).2.2.names.all notFree = true
  hb : ∀ (fd : FuncData), fd.params = (defAt i).1 → fd.defaults = .none → fd.kwdefaults = .none → ∀ xs : List Value, xs.length = m → bindArgs fd ⟨xs, []⟩ = pure ((psAt i).zip xs)
theorem ne_cons {β : Type} {l : List β} (h : (!l.isEmpty) = true) : ∃ p t, l = p :: t := by
  cases l with
  | nil => exact absurd h Bool.false_ne_true
  | cons p t => exact ⟨p, t, rfl⟩
theorem ok_at {i m : Nat} (hb : hbL (defAt i).1 m = hbR (defAt i).1 m) (h : okAt i m = true) : OkAt i m := by
  unfold okAt at h
  simp only [Bool.and_eq_true] at h
  obtain ⟨⟨⟨⟨k1, k2⟩, k3⟩, k4⟩, k5⟩ := h
  have k2 := Nat.eq_of_beq_eq_true k2
  exact ⟨k1, k2, ne_cons k3, ne_cons k4, k5, hb_of hb⟩
theorem cells_ok {F : Fc C} {l : List (Str × NameKind)} (hN : F.env.scope.names = l) (hfr : l.all notFree = true) (hcl : ∀ x, l.lookup x = some .cell → (F.env.cells.lookup x).isSome = true) (x : Str) (hx : l.lookup x = some .cell ∨ l.lookup x = some .free) : ∃ c, F.env.cells.lookup x = some c :=
  hx.elim (fun h => Option.isSome_iff_exists.mp (hcl x h)) fun h => (free_no hfr h).elim
noncomputable def argsAt (i : Nat) (vs : List V) : List V := vs ++ List.replicate ((defAt i).2.2.names.length - vs.length) .undef
theorem spec_run (H : C.All) {g : Str} (i : Nat) (Hf : FnIs C g i) (n : Nat) {vs : List V} {R : V → Option α} {r : α} {P : V → Prop} (gs : List (Str × V)) (fs : List (Str × Sem' α)) (cv : V → Option (Int → Option (Option (Int × Int)))) (fl : Nat)
    (hb : hbL (defAt i).1 vs.length = hbR (defAt i).1 vs.length) (hok : okAt i vs.length = true) (hg : ∀ q ∈ gs, GlobV C q.1 q.2) (hf : ∀ F : Fc C, F.n = n → ∀ q ∈ fs, CallOk F q.1 q.2)
    (hcv : ∀ F : Fc C, F.n = n → ∀ v Fn, cv v = some Fn → v ≠ .undef ∧ ∀ (k : Int) (b : Option (Int × Int)) (Q : V → Prop), Fn k = some b → Q (BV b) → FnQ C F.n [.int k] Q v) (hP : ∀ v, R v = some r → P v)
    (h : evS ⟨(defAt i).2.2.names, gs, fs, cv, fun _ _ _ _ => none, fun _ _ _ _ _ => none, fl⟩ R 60 false (argsAt i vs) (defAt i).2.1 (fun _ => R .none) = some r) : Spec C (n + 1) g vs P := by
  have K := ok_at hb hok
  obtain ⟨p, t, hns⟩ := K.ns
  obtain ⟨st, sts, hbd⟩ := K.bd
  refine (spec_fn H.G i Hf n _ K.sc K.len K.hb hns hbd rfl fun F hn hN hcl hq => ?_).imp hP
  have hN : F.env.scope.names = (defAt i).2.2.names := hN.trans hns.symm
  have J := evS_s (F := F) ⟨H.G, H.RO, hN, cells_ok hN K.fr hcl, hg, hf F hn, hcv F hn, fun _ _ _ _ _ _ _ h => nope h⟩ (fun _ _ _ _ _ _ _ _ _ _ h => nope h) _ _ _ _ _ h
  rw [hbd] at J
  exact fun s w fi R E kn kr => J s w fi R E (fun fz' ρ' s' w' hh fi' => kn _ _ s' w' hh.2 fi') kr
theorem spec_run0 (H : C.All) {g : Str} (i : Nat) (Hf : FnIs C g i) (n : Nat) {vs : List V} {R : V → Option α} {r : α} {P : V → Prop} (gs : List (Str × V)) (fs : List (Str × Sem' α))
    (hb : hbL (defAt i).1 vs.length = hbR (defAt i).1 vs.length) (hok : okAt i vs.length = true) (hg : ∀ q ∈ gs, GlobV C q.1 q.2) (hf : ∀ F : Fc C, F.n = n → ∀ q ∈ fs, CallOk F q.1 q.2) (hP : ∀ v, R v = some r → P v)
    (h : evS ⟨(defAt i).2.2.names, gs, fs, fun _ => none, fun _ _ _ _ => none, fun _ _ _ _ _ => none, 0⟩ R 60 false (argsAt i vs) (defAt i).2.1 (fun _ => R .none) = some r) : Spec C (n + 1) g vs P :=
  spec_run H i Hf n gs fs _ _ hb hok hg hf (fun _ _ _ _ h => nope h) hP h
noncomputable def whT (sts : List Stmt) (j : Nat) : Expr := match sts[j]? with | some (.While t _ _ _) => t | _ => .Constant .none default default
noncomputable def whB (sts : List Stmt) (j : Nat) : List Stmt := match sts[j]? with | some (.While _ b _ _) => b | _ => []
noncomputable def whS (T : Tb α) (R : V → Option α) (sts : List Stmt) (j : Nat) (L : List V → Option α) (ρ : List V) : Option α :=
  evT T.off ρ (59 - j) (whT sts j) fun c => if c = true then evS T R (59 - j) false ρ (whB sts j) L else evS T R (59 - j) false ρ (sts.drop (j + 1)) fun _ => R .none
theorem spec_runL (H : C.All) {g : Str} (i : Nat) (Hf : FnIs C g i) (n : Nat) {vs : List V} {R : V → Option α} {r : α} {P : V → Prop} (gs : List (Str × V)) (fs : List (Str × Sem' α)) (cv : V → Option (Int → Option (Option (Int × Int)))) (fl j : Nat)
    {A : Type} (sh : A → List V) (sP : (A → Option α) → A → Option α) (pre : (A → Option α) → Option α)
    (hb : hbL (defAt i).1 vs.length = hbR (defAt i).1 vs.length) (hok : okAt i vs.length = true) (hg : ∀ q ∈ gs, GlobV C q.1 q.2) (hf : ∀ F : Fc C, F.n = n → ∀ q ∈ fs, CallOk F q.1 q.2)
    (hcv : ∀ F : Fc C, F.n = n → ∀ v Fn, cv v = some Fn → v ≠ .undef ∧ ∀ (k : Int) (b : Option (Int × Int)) (Q : V → Prop), Fn k = some b → Q (BV b) → FnQ C F.n [.int k] Q v) (hP : ∀ v, R v = some r → P v)
    (hs : (fun L a => whS ⟨(defAt i).2.2.names, gs, fs, cv, fun _ _ _ _ => none, fun _ _ _ _ _ => none, fl⟩ R (defAt i).2.1 j L (sh a)) = fun L a => sP (fun a => L (sh a)) a)
    (hp : (fun _ : Unit => evS ⟨(defAt i).2.2.names, gs, fs, cv, fun _ _ _ _ => none, fun _ _ _ _ _ => none, fl⟩ R 60 false (argsAt i vs) (defAt i).2.1 (fun _ => R .none)) = fun _ : Unit => pre fun a => loopN (whS ⟨(defAt i).2.2.names, gs, fs, cv, fun _ _ _ _ => none, fun _ _ _ _ _ => none, fl⟩ R (defAt i).2.1 j) fl (sh a))
    {f : A → Option α} (hl : loopN sP fl = f) (h : pre f = some r) : Spec C (n + 1) g vs P :=
  spec_run H i Hf n gs fs cv fl hb hok hg hf hcv hP ((congrFun hp ()).trans ((congrArg pre (loop_eq sh (fun L a => congrFun (congrFun hs L) a) fl)).trans ((congrArg pre hl).trans h)))
theorem spec_runC (H : C.All) {g inn : Str} (i : Nat) (Hf : FnC C g i inn) (n : Nat) {vs : List V} {R : V → Option α} {r : α} {P : V → Prop} (gs : List (Str × V)) (fs : List (Str × Sem' α)) (fi : List (Str × Sem' (Option (Int × Int))))
    (hb : hbL (defAt i).1 vs.length = hbR (defAt i).1 vs.length) (hok : okAt i vs.length = true) (hg : ∀ q ∈ gs, GlobV C q.1 q.2) (hf : ∀ F : Fc C, F.n = n → ∀ q ∈ fs, CallOk F q.1 q.2) (hfi : ∀ F : Fc C, F.n = fnRoom - 1 → ∀ q ∈ fi, CallOk F q.1 q.2) (hP : ∀ v, R v = some r → P v)
    (h : evS ⟨(defAt i).2.2.names, gs, fs, fun _ => none, lamF (defAt i).2.2.names gs fi inn, defF (defAt i).2.2.names gs fi inn, 0⟩ R 60 false (argsAt i vs) (defAt i).2.1 (fun _ => R .none) = some r) : Spec C (n + 1) g vs P := by
  have K := ok_at hb hok
  obtain ⟨p, t, hns⟩ := K.ns
  obtain ⟨st, sts, hbd⟩ := K.bd
  refine (spec_fnC H.G i Hf n _ K.sc K.len K.hb hns hbd rfl fun F hn hN hcl hq hco hsc => ?_).imp hP
  have hN : F.env.scope.names = (defAt i).2.2.names := hN.trans hns.symm
  have hco : ∃ c P, F.env.code = .ref c ∧ (c, P, F.env.qual ++ inn) ∈ C.tabs := by rw [hq]; exact hco
  have J := evS_s (F := F) ⟨H.G, H.RO, hN, cells_ok hN K.fr (by rw [← hN]; exact hcl), hg, hf F hn, fun _ _ h => nope h, fun _ _ _ _ _ _ _ h q => lam_s H hN hcl hco hg hfi h q⟩ (fun _ _ _ _ _ _ _ _ _ _ h hi q => def_s H hN hcl hco hg hfi h hi q) _ _ _ _ _ h
  rw [hbd] at J
  exact fun s w fi R E kn kr => J s w fi R E (fun fz' ρ' s' w' hh fi' => kn _ _ s' w' hh.2 fi') kr
end
end Mine
end
section
namespace Mine
section
variable {α : Type} {C : Cx}
theorem le_of {n m k : Nat} (h : k = n) (hle : Nat.ble m n = true) : m ≤ k := by rw [h]; exact Nat.le_of_ble_eq_true hle
noncomputable def m_abs (vs : List V) (K : V → Option α) : Option α := aI (fun a => a0 (K (.int (a.natAbs : Int)))) vs
theorem o_abs (H : C.All) {F : Fc C} : CallOk F (α := α) "abs" m_abs := bcallOk_of H hb_abs (by decide) H.b_abs fun vs K r h => by
  obtain ⟨a1, l, e, h2⟩ := aI_s h; subst e
  obtain ⟨e, h3⟩ := a0_s h2; subst e
  exact bc_abs h3
noncomputable def m_divmod (vs : List V) (K : V → Option α) : Option α := aI (fun a => aI fun b => a0 ((gdiv a b).bind fun c => (gmod a b).bind fun d => K (.tup [.int c, .int d]))) vs
theorem o_divmod (H : C.All) {F : Fc C} : CallOk F (α := α) "divmod" m_divmod := bcallOk_of H hb_divmod (by decide) H.b_divmod fun vs K r h => by
  obtain ⟨a1, l, e, h2⟩ := aI_s h; subst e
  obtain ⟨a2, l2, e, h3⟩ := aI_s h2; subst e
  obtain ⟨e, h4⟩ := a0_s h3; subst e
  obtain ⟨c, h5, h6⟩ := bind_s h4
  obtain ⟨d, h7, h8⟩ := bind_s h6
  exact bc_gdivmod h5 h7 h8
noncomputable def intsK : List V → (List Int → Option α) → Option α
  | [], k => k []
  | v :: vs, k => intK v fun a => intsK vs fun l => k (a :: l)
theorem intsK_s : ∀ {vs : List V} {k : List Int → Option α} {r : α}, intsK vs k = some r → ∃ l : List Int, vs = l.map V.int ∧ k l = some r
  | [], k, r, h => ⟨[], rfl, h⟩
  | v :: vs, k, r, h => by
    obtain ⟨a, e, h1⟩ := intK_s (show (intK v fun a => intsK vs fun l => k (a :: l)) = some r from h)
    obtain ⟨l, e2, h2⟩ := intsK_s h1
    exact ⟨a :: l, by rw [e, e2]; rfl, h2⟩
noncomputable def mostK (f : Int → List Int → Int) (l : List V) (K : V → Option α) : Option α := match l with | [] => none | a :: l => intK a fun a => intsK l fun l => K (.int (f a l))
theorem mostK_s {f : Int → List Int → Int} {l : List V} {K : V → Option α} {r : α} (h : mostK f l K = some r) : ∃ (a : Int) (m : List Int), l = (a :: m).map V.int ∧ K (.int (f a m)) = some r := by
  cases l with
  | nil => exact nope h
  | cons v l =>
    obtain ⟨a, e, h1⟩ := intK_s h
    obtain ⟨m, e2, h2⟩ := intsK_s h1
    exact ⟨a, m, by rw [e, e2]; rfl, h2⟩
noncomputable def exK (f : Int → List Int → Int) (g : Int → Int → Int) (vs : List V) (K : V → Option α) : Option α := match vs with
  | [] => none
  | v :: vs => (match vs with
    | [] => (match v with | .tup l => mostK f l K | .lst l => mostK f l K | _ => none)
    | w :: vs => (match vs with
      | [] => intK v fun a => intK w fun b => K (.int (g a b))
      | _ => none))
theorem exK_s {f : Int → List Int → Int} {g : Int → Int → Int} {vs : List V} {K : V → Option α} {r : α} {P : List V → Prop} (h : exK f g vs K = some r)
    (h1 : ∀ (a : Int) (m : List Int), K (.int (f a m)) = some r → P [.tup ((a :: m).map V.int)] ∧ P [.lst ((a :: m).map V.int)]) (h2 : ∀ a b : Int, K (.int (g a b)) = some r → P [.int a, .int b]) : P vs := by
  rcases vs with _ | ⟨v, _ | ⟨w, _ | ⟨_, _⟩⟩⟩
  · exact nope h
  · cases v with
    | tup l => obtain ⟨a, m, e, h3⟩ := mostK_s h; rw [e]; exact (h1 a m h3).1
    | lst l => obtain ⟨a, m, e, h3⟩ := mostK_s h; rw [e]; exact (h1 a m h3).2
    | _ => exact nope h
  · obtain ⟨a, e, h3⟩ := intK_s h
    obtain ⟨b, e2, h4⟩ := intK_s h3
    rw [e, e2]; exact h2 a b h4
  · exact nope h
noncomputable def m_min (vs : List V) (K : V → Option α) : Option α := exK minL (fun a b => min a b) vs K
noncomputable def m_max (vs : List V) (K : V → Option α) : Option α := exK maxL (fun a b => max a b) vs K
theorem o_min (H : C.All) {F : Fc C} : CallOk F (α := α) "min" m_min := bcallOk_of H hb_min (by decide) H.b_min fun vs K r h => exK_s (P := fun vs => BCall C "min" vs fun v => K v = some r) h (fun a m q => ⟨bc_minT q, bc_minL q⟩) fun a b q => bc_min2 q
theorem o_max (H : C.All) {F : Fc C} : CallOk F (α := α) "max" m_max := bcallOk_of H hb_max (by decide) H.b_max fun vs K r h => exK_s (P := fun vs => BCall C "max" vs fun v => K v = some r) h (fun a m q => ⟨bc_maxT q, bc_maxL q⟩) fun a b q => bc_max2 q
noncomputable def m_Real (vs : List V) (K : V → Option α) : Option α := aI (fun a => aI fun b => a0 (K (.real a b))) vs
theorem o_Real (H : C.All) {F : Fc C} (hn : 4 ≤ F.n) : CallOk F (α := α) "Real" m_Real := callOk_of H (gc_Real H) fun vs K r h => by
  obtain ⟨a1, l, e, h2⟩ := aI_s h; subst e
  obtain ⟨a2, l2, e, h3⟩ := aI_s h2; subst e
  obtain ⟨e, h4⟩ := a0_s h3; subst e
  exact ⟨_, _, h4, hn, spec_Real H.G H.RM _ _⟩
structure Dc (A : Type) where
  enc : A → List V
  dec : ∀ {α : Type}, (A → List V → Option α) → List V → Option α
  ok : ∀ {α : Type} {k : A → List V → Option α} {vs : List V} {r : α}, dec k vs = some r → ∃ a l, vs = enc a ++ l ∧ k a l = some r
noncomputable def dI : Dc Int := ⟨fun a => [.int a], aI, aI_s⟩
noncomputable def dB : Dc Bool := ⟨fun a => [.bool a], aB, aB_s⟩
noncomputable def dS : Dc Str := ⟨fun a => [.str a], aS, aS_s⟩
noncomputable def dR : Dc (Int × Int) := ⟨fun a => [.real a.1 a.2], fun k => aR fun a b => k (a, b), fun h => (aR_s h).elim fun a h => h.elim fun b h => h.elim fun l h => ⟨(a, b), l, h⟩⟩
noncomputable def dT : Dc (Int × Int) := ⟨fun a => [.tup [.int a.1, .int a.2]], fun k => aT fun a b => k (a, b), fun h => (aT_s h).elim fun a h => h.elim fun b h => h.elim fun l h => ⟨(a, b), l, h⟩⟩
noncomputable def dP {A B : Type} (d : Dc A) (e : Dc B) : Dc (A × B) := ⟨fun a => d.enc a.1 ++ e.enc a.2, fun k => d.dec fun a => e.dec fun b => k (a, b), fun h => by
  obtain ⟨a, l, e1, h⟩ := d.ok h
  obtain ⟨b, l', e2, h⟩ := e.ok h
  exact ⟨(a, b), l', by rw [e1, e2, List.append_assoc], h⟩⟩
noncomputable def semD {A β : Type} (d : Dc A) (p : A → Option β) (mk : β → V) {α : Type} (vs : List V) (K : V → Option α) : Option α := d.dec (fun a => a0 ((p a).bind fun x => K (mk x))) vs
theorem okD (H : C.All) {A β : Type} {d : Dc A} {p : A → Option β} {mk : β → V} {F : Fc C} {g : Str} {n : Nat} (gc : GCall C g) (hs : ∀ a r, p a = some r → Spec C n g (d.enc a) (fun v => v = mk r)) (hn : n ≤ F.n) : CallOk F (α := α) g (semD d p mk) := callOk_of H gc fun vs K r h => by
  obtain ⟨a, l, e, h⟩ := d.ok h
  obtain ⟨e2, h⟩ := a0_s h
  obtain ⟨x, hx, hk⟩ := bind_s h
  rw [e2, List.append_nil] at e
  rw [e]
  exact ⟨_, n, hk, hn, hs a x hx⟩
noncomputable def opM {β : Type} (mk : β → V) : Option β → V
  | none => .none
  | some x => mk x
noncomputable def semO {A β : Type} (d : Dc A) (p : A → Option (Option β)) (mk : β → V) {α : Type} (vs : List V) (K : V → Option α) : Option α := d.dec (fun a => a0 ((p a).bind fun x => match x with | none => K .none | some y => K (mk y))) vs
theorem okO (H : C.All) {A β : Type} {d : Dc A} {p : A → Option (Option β)} {mk : β → V} {F : Fc C} {g : Str} {n : Nat} {f : Option β → V} (hf : ∀ x, f x = opM mk x) (gc : GCall C g) (hs : ∀ a r, p a = some r → Spec C n g (d.enc a) (fun v => v = f r)) (hn : n ≤ F.n) : CallOk F (α := α) g (semO d p mk) := callOk_of H gc fun vs K r h => by
  obtain ⟨a, l, e, h⟩ := d.ok h
  obtain ⟨e2, h⟩ := a0_s h
  obtain ⟨x, hx, hk⟩ := bind_s h
  rw [e2, List.append_nil] at e
  rw [e]
  exact ⟨f x, n, by rw [hf]; cases x <;> exact hk, hn, hs a x hx⟩
noncomputable def mI (x : Int) : V := .int x
noncomputable def mB (x : Bool) : V := .bool x
noncomputable def mN (_ : Unit) : V := .none
noncomputable def mR (x : Int × Int) : V := .real x.1 x.2
noncomputable def mT (x : Int × Int) : V := .tup [.int x.1, .int x.2]
noncomputable def mP (x : Int × Int × Int) : V := .tup [.int x.1, .tup [.int x.2.1, .int x.2.2]]
theorem RV_o (x : Option (Int × Int)) : RV x = opM mR x := by cases x <;> rfl
theorem BV_o (x : Option (Int × Int)) : BV x = opM mT x := by cases x <;> rfl
structure En where
  nm : Str
  lv : Nat
  m : ∀ {α : Type}, Sem' α
  o : ∀ {C : Cx}, C.All → ∀ {F : Fc C} {α : Type}, lv ≤ F.n → CallOk F (α := α) nm m
noncomputable def SpE {A β : Type} (lv : Nat) (g : Str) (d : Dc A) (p : A → Option β) (mk : β → V) : Prop := ∀ {C : Cx}, C.All → ∀ (a : A) (r : β), p a = some r → Spec C lv g (d.enc a) (fun v => v = mk r)
noncomputable def enD {A β : Type} {lv : Nat} {g : Str} {d : Dc A} {p : A → Option β} {mk : β → V} (gc : ∀ {C : Cx}, C.All → GCall C g) (h : SpE lv g d p mk) : En := ⟨g, lv, semD d p mk, fun {_} H {_ _} hn => okD H (gc H) (h H) hn⟩
noncomputable def enO {A β : Type} {lv : Nat} {g : Str} {d : Dc A} {p : A → Option (Option β)} {mk : β → V} {f : Option β → V} (hf : ∀ x, f x = opM mk x) (gc : ∀ {C : Cx}, C.All → GCall C g) (h : SpE lv g d p f) : En := ⟨g, lv, semO d p mk, fun {_} H {_ _} hn => okO H hf (gc H) (h H) hn⟩
noncomputable def gsAll : List (Str × V) := [("MORE", .int 12), ("MOST_PLACE", .int 17), ("MOST_TURNS", .int 512), ("REACH", .int 65536), ("half_turn", .gl "half_turn")]
theorem gsAll_ok (H : C.All) : ∀ q ∈ gsAll, GlobV C q.1 q.2 := fs1 (globI H.g_MORE) (fs1 (globI H.g_MOST_PLACE) (fs1 (globI H.g_MOST_TURNS) (fs1 (globI H.g_REACH) (fs1 (globF H.f47.call) fs0))))
noncomputable def fsE (α : Type) (es : List En) : List (Str × Sem' α) := es.map fun e => (e.nm, e.m)
noncomputable def lvOk (n : Nat) (es : List En) : Bool := es.all fun e => Nat.ble e.lv n
theorem fsE_ok (H : C.All) {n : Nat} {α : Type} : ∀ {es : List En}, lvOk n es = true → ∀ F : Fc C, F.n = n → ∀ q ∈ fsE α es, CallOk F q.1 q.2
  | [], _, _, _, _, h => nomatch h
  | e :: es, h, F, hn, q, hq => by
    obtain ⟨h1, h2⟩ := Bool.and_eq_true_iff.mp (show (Nat.ble e.lv n && lvOk n es) = true from h)
    rcases List.mem_cons.mp hq with rfl | hq
    · exact e.o H (le_of hn h1)
    · exact fsE_ok H h2 F hn q hq
noncomputable def fiE (n : Nat) (es : List En) : List En := es.filter fun e => Nat.ble e.lv n
theorem fiE_ok (n : Nat) (es : List En) : lvOk n (fiE n es) = true := List.all_eq_true.mpr fun e he => (List.mem_filter.mp he).2
noncomputable abbrev tbE (α : Type) (i : Nat) (es : List En) (cv : V → Option (Int → Option (Option (Int × Int)))) (fl : Nat) : Tb α := ⟨(defAt i).2.2.names, gsAll, fsE α es, cv, fun _ _ _ _ => none, fun _ _ _ _ _ => none, fl⟩
noncomputable abbrev tbC (α : Type) (n i : Nat) (inn : Str) (es : List En) : Tb α := ⟨(defAt i).2.2.names, gsAll, fsE α (fiE n es), fun _ => none, lamF (defAt i).2.2.names gsAll (fsE _ (fiE 11 es)) inn, defF (defAt i).2.2.names gsAll (fsE _ (fiE 11 es)) inn, 0⟩
theorem and_s {a b : Bool} (h : (a && b) = true) : a = true ∧ b = true := Bool.and_eq_true_iff.mp h
theorem spE {A β : Type} {n : Nat} {g : Str} {d : Dc A} {p : A → Option β} {mk : β → V} {R : V → Option β} {m : Nat} (i : Nat) (hf : ∀ {C : Cx}, C.All → FnIs C g i) (es : List En) (hR : ∀ {v r}, R v = some r → v = mk r) (hok : (okAt i m && lvOk n es) = true) (hb : hbL (defAt i).1 m = hbR (defAt i).1 m) (hm : ∀ a, (d.enc a).length = m)
    (h : p = fun a => evS (tbE β i es (fun _ => none) 0) R 60 false (argsAt i (d.enc a)) (defAt i).2.1 fun _ => R .none) : SpE (n + 1) g d p mk := fun H a r hr => by
  rw [h] at hr
  exact spec_run0 H i (hf H) n gsAll (fsE β es) (by rw [hm]; exact hb) (by rw [hm]; exact (and_s hok).1) (gsAll_ok H) (fsE_ok H (and_s hok).2) (fun v h => hR h) hr
theorem spC {A β : Type} {n : Nat} {g inn : Str} {d : Dc A} {p : A → Option β} {mk : β → V} {R : V → Option β} {m : Nat} (i : Nat) (hf : ∀ {C : Cx}, C.All → FnC C g i inn) (es : List En) (hR : ∀ {v r}, R v = some r → v = mk r) (hok : okAt i m = true) (hb : hbL (defAt i).1 m = hbR (defAt i).1 m) (hm : ∀ a, (d.enc a).length = m)
    (h : p = fun a => evS (tbC β n i inn es) R 60 false (argsAt i (d.enc a)) (defAt i).2.1 fun _ => R .none) : SpE (n + 1) g d p mk := fun H a r hr => by
  rw [h] at hr
  exact spec_runC H i (hf H) n gsAll (fsE β (fiE n es)) (fsE _ (fiE 11 es)) (by rw [hm]; exact hb) (by rw [hm]; exact hok) (gsAll_ok H) (fsE_ok H (fiE_ok n es)) (fsE_ok H (fiE_ok 11 es)) (fun v h => hR h) hr
theorem spL {A B β : Type} {n : Nat} {g : Str} {d : Dc A} {p : A → Option β} {mk : β → V} {R : V → Option β} {m : Nat} (i : Nat) (hf : ∀ {C : Cx}, C.All → FnIs C g i) (es : List En) (j : Nat) (hR : ∀ {v r}, R v = some r → v = mk r) (hok : (okAt i m && lvOk n es) = true) (hb : hbL (defAt i).1 m = hbR (defAt i).1 m) (hm : ∀ a, (d.enc a).length = m)
    (sh : A → B → List V) (sP : A → (B → Option β) → B → Option β) (pre : A → (B → Option β) → Option β)
    (hs : (fun a L b => whS (tbE β i es (fun _ => none) 400) R (defAt i).2.1 j L (sh a b)) = fun a L b => sP a (fun b => L (sh a b)) b)
    (hp : (fun a => evS (tbE β i es (fun _ => none) 400) R 60 false (argsAt i (d.enc a)) (defAt i).2.1 (fun _ => R .none)) = fun a => pre a fun b => loopN (whS (tbE β i es (fun _ => none) 400) R (defAt i).2.1 j) 400 (sh a b))
    (h : p = fun a => pre a (loopN (sP a) 400)) : SpE (n + 1) g d p mk := fun H a r hr => by
  rw [h] at hr
  exact spec_runL H i (hf H) n gsAll (fsE β es) (fun _ => none) 400 j (sh a) (sP a) (pre a) (by rw [hm]; exact hb) (by rw [hm]; exact (and_s hok).1) (gsAll_ok H) (fsE_ok H (and_s hok).2) (fun _ _ _ _ h => nope h) (fun v h => hR h) (congrFun hs a) (congrArg (fun x => fun _ : Unit => x) (congrFun hp a)) rfl hr
noncomputable def e_abs : En := ⟨"abs", 0, m_abs, fun {_} H {_ _} _ => o_abs H⟩
noncomputable def e_divmod : En := ⟨"divmod", 0, m_divmod, fun {_} H {_ _} _ => o_divmod H⟩
noncomputable def e_min : En := ⟨"min", 0, m_min, fun {_} H {_ _} _ => o_min H⟩
noncomputable def e_max : En := ⟨"max", 0, m_max, fun {_} H {_ _} _ => o_max H⟩
noncomputable def e_Real : En := ⟨"Real", 4, m_Real, fun {_} H {_ _} hn => o_Real H hn⟩
end
end Mine
end
section
namespace Mine
noncomputable def p_size_of (number : Int) : Option (Int) :=
some ((Builtin.Int.intBits (number.natAbs : Int) : Int))
theorem t_size_of : SpE 1 "size_of" dI (fun a => p_size_of a) mI := spE (m := 1) 8 (·.f8) [e_abs] rI_s (by kernel_rfl) (by kernel_rfl) (fun _ => rfl) (by kernel_rfl)
noncomputable def e_size_of : En := enD (·.f8.call) t_size_of
noncomputable def p_sign_of_whole (number : Int) : Option (Int) :=
some ((b2i (decide (0 < number)) - b2i (decide (number < 0))))
theorem t_sign_of_whole : SpE 1 "sign_of_whole" dI (fun a => p_sign_of_whole a) mI := spE (m := 1) 9 (·.f9) [] rI_s (by kernel_rfl) (by kernel_rfl) (fun _ => rfl) (by kernel_rfl)
noncomputable def e_sign_of_whole : En := enD (·.f9.call) t_sign_of_whole
noncomputable def p_zeros_below (number : Int) : Option (Int) :=
some (((Builtin.Int.intBits (Builtin.bitAnd number (0 - number)) : Int) - 1))
theorem t_zeros_below : SpE 1 "zeros_below" dI (fun a => p_zeros_below a) mI := spE (m := 1) 10 (·.f10) [] rI_s (by kernel_rfl) (by kernel_rfl) (fun _ => rfl) (by kernel_rfl)
noncomputable def e_zeros_below : En := enD (·.f10.call) t_zeros_below
noncomputable def p_lean (mantissa : Int) (exponent : Int) : Option (Int × Int) :=
if (decide (mantissa = 0)) = true then (
some (0, 0)) else (
(p_zeros_below mantissa).bind fun t2 =>
(p_size_of mantissa).bind fun t4 =>
if (decide (65536 < (Int.natAbs (t4 + exponent) : Int))) = true then (
none) else (
(gshr mantissa t2).bind fun t6 =>
some (t6, (exponent + t2))))
theorem t_lean : SpE 5 "lean" (dP dI dI) (fun a => p_lean a.1 a.2) mR := spE (m := 2) 11 (·.f11) [e_Real, e_zeros_below, e_abs, e_size_of] rR_s (by kernel_rfl) (by kernel_rfl) (fun _ => rfl) (by kernel_rfl)
noncomputable def e_lean : En := enD (·.f11.call) t_lean
noncomputable def p_nearest_shift (number : Int) (gone : Int) : Option (Int) :=
(gshr number gone).bind fun t2 =>
(gshl 1 gone).bind fun t4 =>
(gshl 1 (gone - 1)).bind fun t6 =>
if (decide (t6 < (Builtin.bitAnd number (t4 - 1)))) = true then (
some ((t2 + 1))) else (
if (decide ((Builtin.bitAnd number (t4 - 1)) = t6)) = true then (
if (decide ((Builtin.bitAnd t2 1) = 1)) = true then (
some ((t2 + 1))) else (
some (t2))) else (
some (t2)))
theorem t_nearest_shift : SpE 1 "nearest_shift" (dP dI dI) (fun a => p_nearest_shift a.1 a.2) mI := spE (m := 2) 12 (·.f12) [] rI_s (by kernel_rfl) (by kernel_rfl) (fun _ => rfl) (by kernel_rfl)
noncomputable def e_nearest_shift : En := enD (·.f12.call) t_nearest_shift
noncomputable def p_shifted_round (precision : Int) (mantissa : Int) (exponent : Int) : Option (Int × Int) :=
(p_size_of mantissa).bind fun t2 =>
if (decide ((t2 - precision) ≤ 0)) = true then (
(p_lean mantissa exponent).bind fun (t4, t5) =>
some (t4, t5)) else (
(p_sign_of_whole mantissa).bind fun t7 =>
(p_nearest_shift (mantissa.natAbs : Int) (t2 - precision)).bind fun t9 =>
(gmul t7 t9).bind fun t11 =>
(p_lean t11 (exponent + (t2 - precision))).bind fun (t13, t14) =>
some (t13, t14))
theorem t_shifted_round : SpE 6 "shifted_round" (dP dI (dP dI dI)) (fun a => p_shifted_round a.1 a.2.1 a.2.2) mR := spE (m := 3) 13 (·.f13) [e_lean, e_size_of, e_sign_of_whole, e_nearest_shift, e_abs] rR_s (by kernel_rfl) (by kernel_rfl) (fun _ => rfl) (by kernel_rfl)
noncomputable def e_shifted_round : En := enD (·.f13.call) t_shifted_round
noncomputable def p_with_sticky (number : Int) (is_more : Bool) : Option (Int) :=
(gmul 2 number).bind fun t2 =>
if is_more = true then (
some ((t2 + 1))) else (
some ((t2 + 0)))
theorem t_with_sticky : SpE 1 "with_sticky" (dP dI dB) (fun a => p_with_sticky a.1 a.2) mI := spE (m := 2) 14 (·.f14) [] rI_s (by kernel_rfl) (by kernel_rfl) (fun _ => rfl) (by kernel_rfl)
noncomputable def e_with_sticky : En := enD (·.f14.call) t_with_sticky
noncomputable def p_rounded (precision : Int) (top : Int) (bottom : Int) : Option (Int × Int) :=
if (decide (top = 0)) = true then (
some (0, 0)) else (
(p_size_of bottom).bind fun t2 =>
(p_size_of top).bind fun t4 =>
if (decide (0 ≤ (((precision + 2) + t2) - t4))) = true then (
(gshl (top.natAbs : Int) (((precision + 2) + t2) - t4)).bind fun t6 =>
(gdiv t6 bottom).bind fun t8 => (gmod t6 bottom).bind fun t10 =>
(p_sign_of_whole top).bind fun t12 =>
(p_with_sticky t8 (!decide (t10 = 0))).bind fun t14 =>
(gmul t12 t14).bind fun t16 =>
(p_shifted_round precision t16 ((0 - (((precision + 2) + t2) - t4)) - 1)).bind fun (t18, t19) =>
some (t18, t19)) else (
(gshl bottom (0 - (((precision + 2) + t2) - t4))).bind fun t21 =>
(gdiv (top.natAbs : Int) t21).bind fun t23 => (gmod (top.natAbs : Int) t21).bind fun t25 =>
(p_sign_of_whole top).bind fun t27 =>
(p_with_sticky t23 (!decide (t25 = 0))).bind fun t29 =>
(gmul t27 t29).bind fun t31 =>
(p_shifted_round precision t31 ((0 - (((precision + 2) + t2) - t4)) - 1)).bind fun (t33, t34) =>
some (t33, t34)))
theorem t_rounded : SpE 7 "rounded" (dP dI (dP dI dI)) (fun a => p_rounded a.1 a.2.1 a.2.2) mR := spE (m := 3) 15 (·.f15) [e_shifted_round, e_Real, e_size_of, e_divmod, e_abs, e_sign_of_whole, e_with_sticky] rR_s (by kernel_rfl) (by kernel_rfl) (fun _ => rfl) (by kernel_rfl)
noncomputable def e_rounded : En := enD (·.f15.call) t_rounded
noncomputable def p_place_of (realm : Int) (reale : Int) : Option (Int) :=
(p_size_of realm).bind fun t2 =>
some ((t2 + reale))
theorem t_place_of : SpE 2 "place_of" dR (fun a => p_place_of a.1 a.2) mI := spE (m := 1) 16 (·.f16) [e_size_of] rI_s (by kernel_rfl) (by kernel_rfl) (fun _ => rfl) (by kernel_rfl)
noncomputable def e_place_of : En := enD (·.f16.call) t_place_of
noncomputable def p_sign_of (realm : Int) (reale : Int) : Option (Int) :=
(p_sign_of_whole realm).bind fun t2 =>
some (t2)
theorem t_sign_of : SpE 2 "sign_of" dR (fun a => p_sign_of a.1 a.2) mI := spE (m := 1) 17 (·.f17) [e_sign_of_whole] rI_s (by kernel_rfl) (by kernel_rfl) (fun _ => rfl) (by kernel_rfl)
noncomputable def e_sign_of : En := enD (·.f17.call) t_sign_of
noncomputable def p_negative (realm : Int) (reale : Int) : Option (Int × Int) :=
some ((0 - realm), reale)
theorem t_negative : SpE 5 "negative" dR (fun a => p_negative a.1 a.2) mR := spE (m := 1) 18 (·.f18) [e_Real] rR_s (by kernel_rfl) (by kernel_rfl) (fun _ => rfl) (by kernel_rfl)
noncomputable def e_negative : En := enD (·.f18.call) t_negative
noncomputable def p_magnitude (realm : Int) (reale : Int) : Option (Int × Int) :=
some ((realm.natAbs : Int), reale)
theorem t_magnitude : SpE 5 "magnitude" dR (fun a => p_magnitude a.1 a.2) mR := spE (m := 1) 19 (·.f19) [e_Real, e_abs] rR_s (by kernel_rfl) (by kernel_rfl) (fun _ => rfl) (by kernel_rfl)
noncomputable def e_magnitude : En := enD (·.f19.call) t_magnitude
noncomputable def p_same_real (onem : Int) (onee : Int) (otherm : Int) (othere : Int) : Option (Bool) :=
if (decide (onem = otherm)) = true then (
some ((decide (onee = othere)))) else (
some (false))
theorem t_same_real : SpE 1 "same_real" (dP dR dR) (fun a => p_same_real a.1.1 a.1.2 a.2.1 a.2.2) mB := spE (m := 2) 20 (·.f20) [] rB_s (by kernel_rfl) (by kernel_rfl) (fun _ => rfl) (by kernel_rfl)
noncomputable def e_same_real : En := enD (·.f20.call) t_same_real
noncomputable def p_compare_magnitudes (onem : Int) (onee : Int) (otherm : Int) (othere : Int) : Option (Int) :=
(p_place_of onem onee).bind fun t2 =>
(p_place_of otherm othere).bind fun t4 =>
if (!decide (t2 = t4)) = true then (
(p_place_of onem onee).bind fun t6 =>
(p_place_of otherm othere).bind fun t8 =>
if (decide (t8 < t6)) = true then (
some (1)) else (
some ((-1)))) else (
(gshl onem (onee - (min onee othere))).bind fun t10 =>
(gshl otherm (othere - (min onee othere))).bind fun t12 =>
(p_sign_of_whole (t10 - t12)).bind fun t14 =>
some (t14))
theorem t_compare_magnitudes : SpE 3 "compare_magnitudes" (dP dR dR) (fun a => p_compare_magnitudes a.1.1 a.1.2 a.2.1 a.2.2) mI := spE (m := 2) 21 (·.f21) [e_min, e_sign_of_whole, e_place_of] rI_s (by kernel_rfl) (by kernel_rfl) (fun _ => rfl) (by kernel_rfl)
noncomputable def e_compare_magnitudes : En := enD (·.f21.call) t_compare_magnitudes
noncomputable def p_compare_reals (onem : Int) (onee : Int) (otherm : Int) (othere : Int) : Option (Int) :=
(p_sign_of onem onee).bind fun t2 =>
(p_sign_of otherm othere).bind fun t4 =>
if (!decide (t2 = t4)) = true then (
(p_sign_of onem onee).bind fun t6 =>
(p_sign_of otherm othere).bind fun t8 =>
if (decide (t8 < t6)) = true then (
some (1)) else (
some ((-1)))) else (
(p_sign_of onem onee).bind fun t10 =>
if (decide (t10 = 0)) = true then (
some (0)) else (
(p_sign_of onem onee).bind fun t12 =>
(p_magnitude onem onee).bind fun (t14, t15) =>
(p_magnitude otherm othere).bind fun (t17, t18) =>
(p_compare_magnitudes t14 t15 t17 t18).bind fun t20 =>
(gmul t12 t20).bind fun t22 =>
some (t22)))
theorem t_compare_reals : SpE 6 "compare_reals" (dP dR dR) (fun a => p_compare_reals a.1.1 a.1.2 a.2.1 a.2.2) mI := spE (m := 2) 22 (·.f22) [e_sign_of, e_compare_magnitudes, e_magnitude] rI_s (by kernel_rfl) (by kernel_rfl) (fun _ => rfl) (by kernel_rfl)
noncomputable def e_compare_reals : En := enD (·.f22.call) t_compare_reals
noncomputable def p_far_sum (precision : Int) (greatm : Int) (greate : Int) (smallm : Int) (smalle : Int) : Option (Int × Int) :=
(p_size_of greatm).bind fun t2 =>
(gshl greatm (max 0 ((precision + 3) - t2))).bind fun t4 =>
(gmul 2 t4).bind fun t6 =>
(p_sign_of smallm smalle).bind fun t8 =>
(p_shifted_round precision (t6 + t8) ((greate - (max 0 ((precision + 3) - t2))) - 1)).bind fun (t10, t11) =>
some (t10, t11)
theorem t_far_sum : SpE 7 "far_sum" (dP dI (dP dR dR)) (fun a => p_far_sum a.1 a.2.1.1 a.2.1.2 a.2.2.1 a.2.2.2) mR := spE (m := 3) 23 (·.f23) [e_max, e_shifted_round, e_size_of, e_sign_of] rR_s (by kernel_rfl) (by kernel_rfl) (fun _ => rfl) (by kernel_rfl)
noncomputable def e_far_sum : En := enD (·.f23.call) t_far_sum
noncomputable def p_add_reals (precision : Int) (onem : Int) (onee : Int) (otherm : Int) (othere : Int) : Option (Int × Int) :=
(p_sign_of onem onee).bind fun t2 =>
if (decide (t2 = 0)) = true then (
(p_shifted_round precision (onem + otherm) (onee + othere)).bind fun (t4, t5) =>
some (t4, t5)) else (
(p_sign_of otherm othere).bind fun t7 =>
if (decide (t7 = 0)) = true then (
(p_shifted_round precision (onem + otherm) (onee + othere)).bind fun (t9, t10) =>
some (t9, t10)) else (
(p_place_of onem onee).bind fun t12 =>
(p_place_of otherm othere).bind fun t14 =>
if (decide (t14 ≤ t12)) = true then (
(p_place_of onem onee).bind fun t16 =>
(p_place_of otherm othere).bind fun t18 =>
if (decide (t18 < (min onee ((t16 - precision) - 3)))) = true then (
(p_far_sum precision onem onee otherm othere).bind fun (t20, t21) =>
some (t20, t21)) else (
(gshl onem (onee - (min onee othere))).bind fun t23 =>
(gshl otherm (othere - (min onee othere))).bind fun t25 =>
(p_shifted_round precision (t23 + t25) (min onee othere)).bind fun (t27, t28) =>
some (t27, t28))) else (
(p_place_of otherm othere).bind fun t30 =>
(p_place_of onem onee).bind fun t32 =>
if (decide (t32 < (min othere ((t30 - precision) - 3)))) = true then (
(p_far_sum precision otherm othere onem onee).bind fun (t34, t35) =>
some (t34, t35)) else (
(gshl otherm (othere - (min othere onee))).bind fun t37 =>
(gshl onem (onee - (min othere onee))).bind fun t39 =>
(p_shifted_round precision (t37 + t39) (min othere onee)).bind fun (t41, t42) =>
some (t41, t42)))))
theorem t_add_reals : SpE 8 "add_reals" (dP dI (dP dR dR)) (fun a => p_add_reals a.1 a.2.1.1 a.2.1.2 a.2.2.1 a.2.2.2) mR := spE (m := 3) 24 (·.f24) [e_min, e_shifted_round, e_place_of, e_far_sum, e_sign_of] rR_s (by kernel_rfl) (by kernel_rfl) (fun _ => rfl) (by kernel_rfl)
noncomputable def e_add_reals : En := enD (·.f24.call) t_add_reals
noncomputable def p_subtract_reals (precision : Int) (onem : Int) (onee : Int) (otherm : Int) (othere : Int) : Option (Int × Int) :=
(p_negative otherm othere).bind fun (t2, t3) =>
(p_add_reals precision onem onee t2 t3).bind fun (t5, t6) =>
some (t5, t6)
theorem t_subtract_reals : SpE 9 "subtract_reals" (dP dI (dP dR dR)) (fun a => p_subtract_reals a.1 a.2.1.1 a.2.1.2 a.2.2.1 a.2.2.2) mR := spE (m := 3) 25 (·.f25) [e_add_reals, e_negative] rR_s (by kernel_rfl) (by kernel_rfl) (fun _ => rfl) (by kernel_rfl)
noncomputable def e_subtract_reals : En := enD (·.f25.call) t_subtract_reals
noncomputable def p_divide_reals (precision : Int) (onem : Int) (onee : Int) (otherm : Int) (othere : Int) : Option (Int × Int) :=
if (decide (otherm = 0)) = true then (
none) else (
(p_sign_of otherm othere).bind fun t2 =>
(gmul onem t2).bind fun t4 =>
(p_rounded precision t4 (otherm.natAbs : Int)).bind fun (t6, t7) =>
(p_lean t6 ((t7 + onee) - othere)).bind fun (t9, t10) =>
some (t9, t10))
theorem t_divide_reals : SpE 8 "divide_reals" (dP dI (dP dR dR)) (fun a => p_divide_reals a.1 a.2.1.1 a.2.1.2 a.2.2.1 a.2.2.2) mR := spE (m := 3) 26 (·.f26) [e_rounded, e_lean, e_abs, e_sign_of] rR_s (by kernel_rfl) (by kernel_rfl) (fun _ => rfl) (by kernel_rfl)
noncomputable def e_divide_reals : En := enD (·.f26.call) t_divide_reals
noncomputable def s_root_below (number : Int) (post L : Int → Int → Option (Int)) (found better : Int) : Option (Int) :=
if (decide (better < found)) = true then (
(gdiv number better).bind fun t110 =>
(gdiv (better + t110) 2).bind fun t112 =>
L better t112) else post found better
noncomputable def p_root_below_loop (number : Int) (post : Int → Int → Option (Int)) : Nat → Int → Int → Option (Int)
  | 0 => fun _ _ => none
  | n + 1 => s_root_below number post (p_root_below_loop number post n)
noncomputable def q_root_below (found better : Int) : Option (Int) :=
some found
noncomputable def p_root_below (number : Int) : Option (Int) :=
if (decide (number = 0)) = true then (
some 0) else (
(gdiv ((Builtin.Int.intBits number : Int) + 1) 2).bind fun t2 =>
(gshl 1 t2).bind fun t4 =>
(gdiv number t4).bind fun t6 =>
(gdiv (t4 + t6) 2).bind fun t8 =>
p_root_below_loop number q_root_below 400 t4 t8)
theorem t_root_below : SpE 1 "root_below" dI (fun a => p_root_below a) mI :=
  spL (m := 1) (B := Int × Int) 27 (·.f27) [] 3 rI_s (by kernel_rfl) (by kernel_rfl) (fun _ => rfl) (fun a b => [.int a, .int b.1, .int b.2]) (fun a L b => s_root_below a q_root_below (fun x0 x1 => L (x0, x1)) b.1 b.2) (fun a k => if (decide (a = 0)) = true then ( some 0) else ( (gdiv ((Builtin.Int.intBits a : Int) + 1) 2).bind fun t2 => (gshl 1 t2).bind fun t4 => (gdiv a t4).bind fun t6 => (gdiv (t4 + t6) 2).bind fun t8 => k (t4, t8))) (by kernel_rfl) (by kernel_rfl)
    (funext fun a => Eq.trans (by kernel_rfl) (congrArg (fun k => if (decide (a = 0)) = true then ( some 0) else ( (gdiv ((Builtin.Int.intBits a : Int) + 1) 2).bind fun t2 => (gshl 1 t2).bind fun t4 => (gdiv a t4).bind fun t6 => (gdiv (t4 + t6) 2).bind fun t8 => k (t4, t8))) (loop_fn (A := Int × Int) (fun n b => p_root_below_loop a q_root_below n b.1 b.2) rfl (fun n => rfl) 400).symm))
noncomputable def e_root_below : En := enD (·.f27.call) t_root_below
end Mine
end
section
namespace Mine
noncomputable def p_up_shift (number : Int) (places : Int) : Option (Int) :=
(gshr (0 - number) places).bind fun t2 =>
some ((0 - t2))
theorem t_up_shift : SpE 1 "up_shift" (dP dI dI) (fun a => p_up_shift a.1 a.2) mI := spE (m := 2) 32 (·.f32) [] rI_s (by kernel_rfl) (by kernel_rfl) (fun _ => rfl) (by kernel_rfl)
noncomputable def e_up_shift : En := enD (·.f32.call) t_up_shift
noncomputable def p_up_over (number : Int) (bottom : Int) : Option (Int) :=
(gdiv (0 - number) bottom).bind fun t2 =>
some ((0 - t2))
theorem t_up_over : SpE 1 "up_over" (dP dI dI) (fun a => p_up_over a.1 a.2) mI := spE (m := 2) 33 (·.f33) [] rI_s (by kernel_rfl) (by kernel_rfl) (fun _ => rfl) (by kernel_rfl)
noncomputable def e_up_over : En := enD (·.f33.call) t_up_over
noncomputable def p_fraction_bounds (work : Int) (top : Int) (bottom : Int) : Option (Int × Int) :=
(gshl top work).bind fun t2 =>
(gdiv t2 bottom).bind fun t4 =>
(gshl top work).bind fun t6 =>
(p_up_over t6 bottom).bind fun t8 =>
some (t4, t8)
theorem t_fraction_bounds : SpE 2 "fraction_bounds" (dP dI (dP dI dI)) (fun a => p_fraction_bounds a.1 a.2.1 a.2.2) mT := spE (m := 3) 34 (·.f34) [e_up_over] rT_s (by kernel_rfl) (by kernel_rfl) (fun _ => rfl) (by kernel_rfl)
noncomputable def e_fraction_bounds : En := enD (·.f34.call) t_fraction_bounds
noncomputable def p_more_of (one0 : Int) (one1 : Int) (other0 : Int) (other1 : Int) : Option (Int × Int) :=
some ((one0 + other0), (one1 + other1))
theorem t_more_of : SpE 1 "more_of" (dP dT dT) (fun a => p_more_of a.1.1 a.1.2 a.2.1 a.2.2) mT := spE (m := 2) 35 (·.f35) [] rT_s (by kernel_rfl) (by kernel_rfl) (fun _ => rfl) (by kernel_rfl)
noncomputable def e_more_of : En := enD (·.f35.call) t_more_of
noncomputable def p_less_of (one0 : Int) (one1 : Int) (other0 : Int) (other1 : Int) : Option (Int × Int) :=
some ((one0 - other1), (one1 - other0))
theorem t_less_of : SpE 1 "less_of" (dP dT dT) (fun a => p_less_of a.1.1 a.1.2 a.2.1 a.2.2) mT := spE (m := 2) 36 (·.f36) [] rT_s (by kernel_rfl) (by kernel_rfl) (fun _ => rfl) (by kernel_rfl)
noncomputable def e_less_of : En := enD (·.f36.call) t_less_of
noncomputable def p_contrary_of (one0 : Int) (one1 : Int) : Option (Int × Int) :=
some ((0 - one1), (0 - one0))
theorem t_contrary_of : SpE 1 "contrary_of" dT (fun a => p_contrary_of a.1 a.2) mT := spE (m := 1) 37 (·.f37) [] rT_s (by kernel_rfl) (by kernel_rfl) (fun _ => rfl) (by kernel_rfl)
noncomputable def e_contrary_of : En := enD (·.f37.call) t_contrary_of
noncomputable def p_often (one0 : Int) (one1 : Int) (times : Int) : Option (Int × Int) :=
(gmul one0 times).bind fun t2 =>
(gmul one1 times).bind fun t4 =>
some ((minL t2 [t4]), (maxL t2 [t4]))
theorem t_often : SpE 1 "often" (dP dT dI) (fun a => p_often a.1.1 a.1.2 a.2) mT := spE (m := 2) 38 (·.f38) [e_min, e_max] rT_s (by kernel_rfl) (by kernel_rfl) (fun _ => rfl) (by kernel_rfl)
noncomputable def e_often : En := enD (·.f38.call) t_often
noncomputable def p_product_of (work : Int) (one0 : Int) (one1 : Int) (other0 : Int) (other1 : Int) : Option (Int × Int) :=
(gmul one0 other0).bind fun t2 =>
(gmul one0 other1).bind fun t4 =>
(gmul one1 other0).bind fun t6 =>
(gmul one1 other1).bind fun t8 =>
(gshr (minL t2 [t4, t6, t8]) work).bind fun t10 =>
(p_up_shift (maxL t2 [t4, t6, t8]) work).bind fun t12 =>
some (t10, t12)
theorem t_product_of : SpE 2 "product_of" (dP dI (dP dT dT)) (fun a => p_product_of a.1 a.2.1.1 a.2.1.2 a.2.2.1 a.2.2.2) mT := spE (m := 3) 39 (·.f39) [e_up_shift, e_min, e_max] rT_s (by kernel_rfl) (by kernel_rfl) (fun _ => rfl) (by kernel_rfl)
noncomputable def e_product_of : En := enD (·.f39.call) t_product_of
noncomputable def p_part_of (one0 : Int) (one1 : Int) (bottom : Int) : Option (Int × Int) :=
(gdiv one0 bottom).bind fun t2 =>
(p_up_over one1 bottom).bind fun t4 =>
some (t2, t4)
theorem t_part_of : SpE 2 "part_of" (dP dT dI) (fun a => p_part_of a.1.1 a.1.2 a.2) mT := spE (m := 2) 40 (·.f40) [e_up_over] rT_s (by kernel_rfl) (by kernel_rfl) (fun _ => rfl) (by kernel_rfl)
noncomputable def e_part_of : En := enD (·.f40.call) t_part_of
noncomputable def p_widened (one0 : Int) (one1 : Int) (by_ : Int) : Option (Int × Int) :=
some ((one0 - by_), (one1 + by_))
theorem t_widened : SpE 1 "widened" (dP dT dI) (fun a => p_widened a.1.1 a.1.2 a.2) mT := spE (m := 2) 42 (·.f42) [] rT_s (by kernel_rfl) (by kernel_rfl) (fun _ => rfl) (by kernel_rfl)
noncomputable def e_widened : En := enD (·.f42.call) t_widened
noncomputable def p_greatest_of (one0 : Int) (one1 : Int) : Option (Int) :=
some ((max (one0.natAbs : Int) (one1.natAbs : Int)))
theorem t_greatest_of : SpE 1 "greatest_of" dT (fun a => p_greatest_of a.1 a.2) mI := spE (m := 1) 43 (·.f43) [e_max, e_abs] rI_s (by kernel_rfl) (by kernel_rfl) (fun _ => rfl) (by kernel_rfl)
noncomputable def e_greatest_of : En := enD (·.f43.call) t_greatest_of
noncomputable def p_fraction_of (realm : Int) (reale : Int) : Option (Int × Int) :=
if (decide (0 ≤ reale)) = true then (
(gshl realm reale).bind fun t2 =>
some (t2, 1)) else (
(gshl 1 (0 - reale)).bind fun t4 =>
some (realm, t4))
theorem t_fraction_of : SpE 1 "fraction_of" dR (fun a => p_fraction_of a.1 a.2) mT := spE (m := 1) 44 (·.f44) [] rT_s (by kernel_rfl) (by kernel_rfl) (fun _ => rfl) (by kernel_rfl)
noncomputable def e_fraction_of : En := enD (·.f44.call) t_fraction_of
noncomputable def s_inverse_series (number sign : Int) (post L : Int → Int → Int → Int → Int → Option (Int × Int)) (power total exponent now steps : Int) : Option (Int × Int) :=
if (decide (0 < power)) = true then (
(gdiv power exponent).bind fun t106 =>
(gmul now t106).bind fun t108 =>
(gmul number number).bind fun t110 =>
(gdiv power t110).bind fun t112 =>
(gmul now sign).bind fun t114 =>
L t112 (total + t108) (exponent + 2) t114 (steps + 1)) else post power total exponent now steps
noncomputable def p_inverse_series_loop (number sign : Int) (post : Int → Int → Int → Int → Int → Option (Int × Int)) : Nat → Int → Int → Int → Int → Int → Option (Int × Int)
  | 0 => fun _ _ _ _ _ => none
  | n + 1 => s_inverse_series number sign post (p_inverse_series_loop number sign post n)
noncomputable def q_inverse_series (power total exponent now steps : Int) : Option (Int × Int) :=
(gmul 2 steps).bind fun t231 =>
(p_widened total total (t231 + 4)).bind fun (t233, t234) =>
some (t233, t234)
noncomputable def p_inverse_series (work number sign : Int) : Option (Int × Int) :=
(gshl 1 work).bind fun t2 =>
(gdiv t2 number).bind fun t4 =>
p_inverse_series_loop number sign q_inverse_series 400 t4 0 1 1 0
theorem t_inverse_series : SpE 2 "inverse_series" (dP dI (dP dI dI)) (fun a => p_inverse_series a.1 a.2.1 a.2.2) mT :=
  spL (m := 3) (B := Int × Int × Int × Int × Int) 45 (·.f45) [e_widened] 1 rT_s (by kernel_rfl) (by kernel_rfl) (fun _ => rfl) (fun a b => [.int a.1, .int a.2.1, .int a.2.2, .int b.1, .int b.2.1, .int b.2.2.1, .int b.2.2.2.1, .int b.2.2.2.2, .undef]) (fun a L b => s_inverse_series a.2.1 a.2.2 q_inverse_series (fun x0 x1 x2 x3 x4 => L (x0, x1, x2, x3, x4)) b.1 b.2.1 b.2.2.1 b.2.2.2.1 b.2.2.2.2) (fun a k => (gshl 1 a.1).bind fun t2 => (gdiv t2 a.2.1).bind fun t4 => k (t4, 0, 1, 1, 0)) (by kernel_rfl) (by kernel_rfl)
    (funext fun a => Eq.trans (by kernel_rfl) (congrArg (fun k => (gshl 1 a.1).bind fun t2 => (gdiv t2 a.2.1).bind fun t4 => k (t4, 0, 1, 1, 0)) (loop_fn (A := Int × Int × Int × Int × Int) (fun n b => p_inverse_series_loop a.2.1 a.2.2 q_inverse_series n b.1 b.2.1 b.2.2.1 b.2.2.2.1 b.2.2.2.2) rfl (fun n => rfl) 400).symm))
noncomputable def e_inverse_series : En := enD (·.f45.call) t_inverse_series
noncomputable def p_log_of_two (work : Int) : Option (Int × Int) :=
(p_inverse_series work 3 1).bind fun (t2, t3) =>
(p_often t2 t3 2).bind fun (t5, t6) =>
some (t5, t6)
theorem t_log_of_two : SpE 3 "log_of_two" dI (fun a => p_log_of_two a) mT := spE (m := 1) 46 (·.f46) [e_often, e_inverse_series] rT_s (by kernel_rfl) (by kernel_rfl) (fun _ => rfl) (by kernel_rfl)
noncomputable def e_log_of_two : En := enD (·.f46.call) t_log_of_two
noncomputable def p_half_turn (work : Int) : Option (Int × Int) :=
(p_inverse_series work 5 (-1)).bind fun (t2, t3) =>
(p_often t2 t3 16).bind fun (t5, t6) =>
(p_inverse_series work 239 (-1)).bind fun (t8, t9) =>
(p_often t8 t9 4).bind fun (t11, t12) =>
(p_less_of t5 t6 t11 t12).bind fun (t14, t15) =>
some (t14, t15)
theorem t_half_turn : SpE 3 "half_turn" dI (fun a => p_half_turn a) mT := spE (m := 1) 47 (·.f47) [e_less_of, e_often, e_inverse_series] rT_s (by kernel_rfl) (by kernel_rfl) (fun _ => rfl) (by kernel_rfl)
noncomputable def e_half_turn : En := enD (·.f47.call) t_half_turn
noncomputable def s_exp_series (work rest0 rest1 : Int) (post L : Int → Int → Int → Int → Int → Option (Int × Int)) (total0 total1 term0 term1 count : Int) : Option (Int × Int) :=
(p_greatest_of term0 term1).bind fun t106 =>
if (decide (1 < t106)) = true then (
(p_product_of work term0 term1 rest0 rest1).bind fun (t108, t109) =>
(p_part_of t108 t109 count).bind fun (t111, t112) =>
(p_more_of total0 total1 t111 t112).bind fun (t114, t115) =>
L t114 t115 t111 t112 (count + 1)) else post total0 total1 term0 term1 count
noncomputable def p_exp_series_loop (work rest0 rest1 : Int) (post : Int → Int → Int → Int → Int → Option (Int × Int)) : Nat → Int → Int → Int → Int → Int → Option (Int × Int)
  | 0 => fun _ _ _ _ _ => none
  | n + 1 => s_exp_series work rest0 rest1 post (p_exp_series_loop work rest0 rest1 post n)
noncomputable def q_exp_series (total0 total1 term0 term1 count : Int) : Option (Int × Int) :=
(p_greatest_of term0 term1).bind fun t233 =>
(gmul 2 t233).bind fun t235 =>
(p_widened total0 total1 (t235 + 2)).bind fun (t237, t238) =>
some (t237, t238)
noncomputable def p_exp_series (work rest0 rest1 : Int) : Option (Int × Int) :=
(gshl 1 work).bind fun t2 =>
(gshl 1 work).bind fun t4 =>
p_exp_series_loop work rest0 rest1 q_exp_series 400 t2 t4 t2 t4 1
theorem t_exp_series : SpE 3 "exp_series" (dP dI dT) (fun a => p_exp_series a.1 a.2.1 a.2.2) mT :=
  spL (m := 2) (B := Int × Int × Int × Int × Int) 48 (·.f48) [e_greatest_of, e_part_of, e_product_of, e_more_of, e_widened] 2 rT_s (by kernel_rfl) (by kernel_rfl) (fun _ => rfl) (fun a b => [.int a.1, .tup [.int a.2.1, .int a.2.2], .tup [.int b.1, .int b.2.1], .tup [.int b.2.2.1, .int b.2.2.2.1], .int b.2.2.2.2, .undef, .undef, .undef, .undef, .undef]) (fun a L b => s_exp_series a.1 a.2.1 a.2.2 q_exp_series (fun x0 x1 x2 x3 x4 => L (x0, x1, x2, x3, x4)) b.1 b.2.1 b.2.2.1 b.2.2.2.1 b.2.2.2.2) (fun a k => (gshl 1 a.1).bind fun t2 => (gshl 1 a.1).bind fun t4 => k (t2, t4, t2, t4, 1)) (by kernel_rfl) (by kernel_rfl)
    (funext fun a => Eq.trans (by kernel_rfl) (congrArg (fun k => (gshl 1 a.1).bind fun t2 => (gshl 1 a.1).bind fun t4 => k (t2, t4, t2, t4, 1)) (loop_fn (A := Int × Int × Int × Int × Int) (fun n b => p_exp_series_loop a.1 a.2.1 a.2.2 q_exp_series n b.1 b.2.1 b.2.2.1 b.2.2.2.1 b.2.2.2.2) rfl (fun n => rfl) 400).symm))
noncomputable def e_exp_series : En := enD (·.f48.call) t_exp_series
noncomputable def s_wave_series (work square0 square1 : Int) (post L : Int → Int → Int → Int → Int → Option (Int × Int)) (count total0 total1 term0 term1 : Int) : Option (Int × Int) :=
(p_greatest_of term0 term1).bind fun t105 =>
if (decide (1 < t105)) = true then (
(p_product_of work term0 term1 square0 square1).bind fun (t107, t108) =>
(gmul count (count + 1)).bind fun t110 =>
(p_part_of t107 t108 t110).bind fun (t112, t113) =>
(p_contrary_of t112 t113).bind fun (t115, t116) =>
(p_more_of total0 total1 t115 t116).bind fun (t118, t119) =>
L (count + 2) t118 t119 t115 t116) else post count total0 total1 term0 term1
noncomputable def p_wave_series_loop (work square0 square1 : Int) (post : Int → Int → Int → Int → Int → Option (Int × Int)) : Nat → Int → Int → Int → Int → Int → Option (Int × Int)
  | 0 => fun _ _ _ _ _ => none
  | n + 1 => s_wave_series work square0 square1 post (p_wave_series_loop work square0 square1 post n)
noncomputable def q_wave_series (count total0 total1 term0 term1 : Int) : Option (Int × Int) :=
(p_greatest_of term0 term1).bind fun t242 =>
(gmul 2 t242).bind fun t244 =>
(p_widened total0 total1 (t244 + 2)).bind fun (t246, t247) =>
some (t246, t247)
noncomputable def p_wave_series (work rest0 rest1 first0 first1 count : Int) : Option (Int × Int) :=
(p_product_of work rest0 rest1 rest0 rest1).bind fun (t2, t3) =>
p_wave_series_loop work t2 t3 q_wave_series 400 count first0 first1 first0 first1
theorem t_wave_series : SpE 3 "wave_series" (dP dI (dP dT (dP dT dI))) (fun a => p_wave_series a.1 a.2.1.1 a.2.1.2 a.2.2.1.1 a.2.2.1.2 a.2.2.2) mT :=
  spL (m := 4) (B := Int × Int × Int × Int × Int × Int × Int) 49 (·.f49) [e_product_of, e_greatest_of, e_contrary_of, e_part_of, e_more_of, e_widened] 1 rT_s (by kernel_rfl) (by kernel_rfl) (fun _ => rfl) (fun a b => [.int a.1, .tup [.int a.2.1.1, .int a.2.1.2], .tup [.int a.2.2.1.1, .int a.2.2.1.2], .int b.2.2.1, .tup [.int b.1, .int b.2.1], .tup [.int b.2.2.2.1, .int b.2.2.2.2.1], .tup [.int b.2.2.2.2.2.1, .int b.2.2.2.2.2.2], .undef, .undef, .undef, .undef, .undef, .undef]) (fun a L b => s_wave_series a.1 b.1 b.2.1 q_wave_series (fun x0 x1 x2 x3 x4 => L (b.1, b.2.1, x0, x1, x2, x3, x4)) b.2.2.1 b.2.2.2.1 b.2.2.2.2.1 b.2.2.2.2.2.1 b.2.2.2.2.2.2) (fun a k => (p_product_of a.1 a.2.1.1 a.2.1.2 a.2.1.1 a.2.1.2).bind fun (t2, t3) => k (t2, t3, a.2.2.2, a.2.2.1.1, a.2.2.1.2, a.2.2.1.1, a.2.2.1.2)) (by kernel_rfl) (by kernel_rfl)
    (funext fun a => Eq.trans (by kernel_rfl) (congrArg (fun k => (p_product_of a.1 a.2.1.1 a.2.1.2 a.2.1.1 a.2.1.2).bind fun (t2, t3) => k (t2, t3, a.2.2.2, a.2.2.1.1, a.2.2.1.2, a.2.2.1.1, a.2.2.1.2)) (loop_fn (A := Int × Int × Int × Int × Int × Int × Int) (fun n b => p_wave_series_loop a.1 b.1 b.2.1 q_wave_series n b.2.2.1 b.2.2.2.1 b.2.2.2.2.1 b.2.2.2.2.2.1 b.2.2.2.2.2.2) rfl (fun n => rfl) 400).symm))
noncomputable def e_wave_series : En := enD (·.f49.call) t_wave_series
noncomputable def s_odd_series (work sign square0 square1 : Int) (post L : Int → Int → Int → Int → Int → Int → Option (Int × Int)) (power0 power1 total0 total1 exponent now : Int) : Option (Int × Int) :=
(p_greatest_of power0 power1).bind fun t108 =>
if (decide (1 < t108)) = true then (
(p_product_of work power0 power1 square0 square1).bind fun (t110, t111) =>
(gmul now sign).bind fun t113 =>
(p_part_of t110 t111 (exponent + 2)).bind fun (t115, t116) =>
(p_often t115 t116 t113).bind fun (t118, t119) =>
(p_more_of total0 total1 t118 t119).bind fun (t121, t122) =>
L t110 t111 t121 t122 (exponent + 2) t113) else post power0 power1 total0 total1 exponent now
noncomputable def p_odd_series_loop (work sign square0 square1 : Int) (post : Int → Int → Int → Int → Int → Int → Option (Int × Int)) : Nat → Int → Int → Int → Int → Int → Int → Option (Int × Int)
  | 0 => fun _ _ _ _ _ _ => none
  | n + 1 => s_odd_series work sign square0 square1 post (p_odd_series_loop work sign square0 square1 post n)
noncomputable def q_odd_series (power0 power1 total0 total1 exponent now : Int) : Option (Int × Int) :=
(p_greatest_of power0 power1).bind fun t246 =>
(gmul 2 t246).bind fun t248 =>
(p_widened total0 total1 (t248 + 2)).bind fun (t250, t251) =>
some (t250, t251)
noncomputable def p_odd_series (work top bottom sign : Int) : Option (Int × Int) :=
(p_fraction_bounds work top bottom).bind fun (t2, t3) =>
(p_product_of work t2 t3 t2 t3).bind fun (t5, t6) =>
p_odd_series_loop work sign t5 t6 q_odd_series 400 t2 t3 t2 t3 1 1
theorem t_odd_series : SpE 3 "odd_series" (dP dI (dP dI (dP dI dI))) (fun a => p_odd_series a.1 a.2.1 a.2.2.1 a.2.2.2) mT :=
  spL (m := 4) (B := Int × Int × Int × Int × Int × Int × Int × Int × Int × Int) 50 (·.f50) [e_fraction_bounds, e_product_of, e_greatest_of, e_often, e_part_of, e_more_of, e_widened] 2 rT_s (by kernel_rfl) (by kernel_rfl) (fun _ => rfl) (fun a b => [.int a.1, .int a.2.1, .int a.2.2.1, .int a.2.2.2, .tup [.int b.1, .int b.2.1], .tup [.int b.2.2.1, .int b.2.2.2.1], .tup [.int b.2.2.2.2.1, .int b.2.2.2.2.2.1], .tup [.int b.2.2.2.2.2.2.1, .int b.2.2.2.2.2.2.2.1], .int b.2.2.2.2.2.2.2.2.1, .int b.2.2.2.2.2.2.2.2.2, .undef, .undef, .undef, .undef, .undef, .undef, .undef]) (fun a L b => s_odd_series a.1 a.2.2.2 b.2.2.1 b.2.2.2.1 q_odd_series (fun x0 x1 x2 x3 x4 x5 => L (b.1, b.2.1, b.2.2.1, b.2.2.2.1, x0, x1, x2, x3, x4, x5)) b.2.2.2.2.1 b.2.2.2.2.2.1 b.2.2.2.2.2.2.1 b.2.2.2.2.2.2.2.1 b.2.2.2.2.2.2.2.2.1 b.2.2.2.2.2.2.2.2.2) (fun a k => (p_fraction_bounds a.1 a.2.1 a.2.2.1).bind fun (t2, t3) => (p_product_of a.1 t2 t3 t2 t3).bind fun (t5, t6) => k (t2, t3, t5, t6, t2, t3, t2, t3, 1, 1)) (by kernel_rfl) (by kernel_rfl)
    (funext fun a => Eq.trans (by kernel_rfl) (congrArg (fun k => (p_fraction_bounds a.1 a.2.1 a.2.2.1).bind fun (t2, t3) => (p_product_of a.1 t2 t3 t2 t3).bind fun (t5, t6) => k (t2, t3, t5, t6, t2, t3, t2, t3, 1, 1)) (loop_fn (A := Int × Int × Int × Int × Int × Int × Int × Int × Int × Int) (fun n b => p_odd_series_loop a.1 a.2.2.2 b.2.2.1 b.2.2.2.1 q_odd_series n b.2.2.2.2.1 b.2.2.2.2.2.1 b.2.2.2.2.2.2.1 b.2.2.2.2.2.2.2.1 b.2.2.2.2.2.2.2.2.1 b.2.2.2.2.2.2.2.2.2) rfl (fun n => rfl) 400).symm))
noncomputable def e_odd_series : En := enD (·.f50.call) t_odd_series
end Mine
end
section
namespace Mine
noncomputable def p_quotient_of (work : Int) (one0 : Int) (one1 : Int) (other0 : Int) (other1 : Int) : Option (Int × Int) :=
(gshl one0 work).bind fun low => (gshl one1 work).bind fun high =>
(gdiv low other0).bind fun a => (gdiv low other1).bind fun b => (gdiv high other0).bind fun c => (gdiv high other1).bind fun d =>
(p_up_over low other0).bind fun a' => (p_up_over low other1).bind fun b' => (p_up_over high other0).bind fun c' => (p_up_over high other1).bind fun d' =>
some (minL a [b, c, d], maxL a' [b', c', d'])
noncomputable def by_pair (f : Int → Int → Option Int) : V → Option V
  | .tup [.int x, .int y] => (f x y).map V.int
  | _ => none
theorem spec_quotient_of {C : Cx} (H : C.All) {work one0 one1 other0 other1 : Int} {r : Int × Int} (h : p_quotient_of work one0 one1 other0 other1 = some r) : Spec C 3 "quotient_of" [V.int work, V.tup [V.int one0, V.int one1], V.tup [V.int other0, V.int other1]] (fun v => v = .tup [.int r.1, .int r.2]) := by
  refine spec_fn H.G 41 H.f41 2 5 (by kernel_rfl) rfl (hb_of (by kernel_rfl)) rfl rfl rfl fun F hn hN hcl hq => ?_
  unfold p_quotient_of at h
  obtain ⟨low, hl, h⟩ := Option.bind_eq_some_iff.mp h
  obtain ⟨high, hh, h⟩ := Option.bind_eq_some_iff.mp h
  obtain ⟨a, ha, h⟩ := Option.bind_eq_some_iff.mp h
  obtain ⟨b, hb, h⟩ := Option.bind_eq_some_iff.mp h
  obtain ⟨c, hc, h⟩ := Option.bind_eq_some_iff.mp h
  obtain ⟨d, hd, h⟩ := Option.bind_eq_some_iff.mp h
  obtain ⟨a', ha', h⟩ := Option.bind_eq_some_iff.mp h
  obtain ⟨b', hb', h⟩ := Option.bind_eq_some_iff.mp h
  obtain ⟨c', hc', h⟩ := Option.bind_eq_some_iff.mp h
  obtain ⟨d', hd', h⟩ := Option.bind_eq_some_iff.mp h
  refine sj_cons (s1_tup2 3 4 (n3 hN) (.inl rfl) (n4 hN) (.inl rfl) (by decide) rfl rfl ?_)
  refine ej_tuple ?_
  refine lj_cons ?_ rfl
  refine ej_bin ?_
  refine ej_item' 0 rfl (by decide) ?_
  refine ej_local 1 (n1 hN) rfl (by nofun) ?_
  refine item_q rfl ?_
  refine ej_local 0 (n0 hN) rfl (by nofun) ?_
  refine bq_gshl hl ?_
  refine lj_cons ?_ rfl
  refine ej_bin ?_
  refine ej_item' 1 rfl (by decide) ?_
  refine ej_local 1 (n1 hN) rfl (by nofun) ?_
  refine item_q rfl ?_
  refine ej_local 0 (n0 hN) rfl (by nofun) ?_
  refine bq_gshl hh ?_
  refine lj_nil ?_
  refine ⟨Nat.le_of_ble_eq_true rfl, ?_⟩
  refine tup_q rfl ?_
  refine sj_cons (s1_assign 5 (n5 hN) (.inl rfl) rfl ?_)
  refine ej_list ?_
  refine lj_cons ?_ rfl
  refine ej_tuple ?_
  refine lj_cons ?_ rfl
  refine ej_local 3 (n3 hN) rfl (by nofun) ?_
  refine lj_cons ?_ rfl
  refine ej_item' 0 rfl (by decide) ?_
  refine ej_local 2 (n2 hN) rfl (by nofun) ?_
  refine item_q rfl ?_
  refine lj_nil ?_
  refine ⟨Nat.le_of_ble_eq_true rfl, ?_⟩
  refine lj_cons ?_ rfl
  refine ej_tuple ?_
  refine lj_cons ?_ rfl
  refine ej_local 3 (n3 hN) rfl (by nofun) ?_
  refine lj_cons ?_ rfl
  refine ej_item' 1 rfl (by decide) ?_
  refine ej_local 2 (n2 hN) rfl (by nofun) ?_
  refine item_q rfl ?_
  refine lj_nil ?_
  refine ⟨Nat.le_of_ble_eq_true rfl, ?_⟩
  refine lj_cons ?_ rfl
  refine ej_tuple ?_
  refine lj_cons ?_ rfl
  refine ej_local 4 (n4 hN) rfl (by nofun) ?_
  refine lj_cons ?_ rfl
  refine ej_item' 0 rfl (by decide) ?_
  refine ej_local 2 (n2 hN) rfl (by nofun) ?_
  refine item_q rfl ?_
  refine lj_nil ?_
  refine ⟨Nat.le_of_ble_eq_true rfl, ?_⟩
  refine lj_cons ?_ rfl
  refine ej_tuple ?_
  refine lj_cons ?_ rfl
  refine ej_local 4 (n4 hN) rfl (by nofun) ?_
  refine lj_cons ?_ rfl
  refine ej_item' 1 rfl (by decide) ?_
  refine ej_local 2 (n2 hN) rfl (by nofun) ?_
  refine item_q rfl ?_
  refine lj_nil ?_
  refine ⟨Nat.le_of_ble_eq_true rfl, ?_⟩
  refine lj_nil ?_
  refine ⟨Nat.le_of_ble_eq_true rfl, ?_⟩
  refine sj_cons (s1_ret ?_)
  refine ej_tuple ?_
  refine lj_cons ?_ rfl
  refine ej_bcall H.G 6 "min" (n6 hN) hb_min (by decide) H.b_min rfl rfl ?_
  refine lj_cons ?_ rfl
  refine ej_listcomp H.G (compOk_of (by decide)) (fun _ => rfl) ?_
  refine ej_local 5 (n5 hN) rfl (by nofun) ?_
  refine ⟨Nat.le_of_ble_eq_true rfl, by_pair gdiv, fun F' hn' hs' v hv => ?_, ?_⟩
  · have hN' : F'.env.scope.names = [(Str.ofString ".0", NameKind.local), (Str.ofString "top", NameKind.local), (Str.ofString "bottom", NameKind.local)] := by rw [hs']
    have key : ∀ (x y z : Int), gdiv x y = some z → v = V.tup [.int x, .int y] → TargetJ F' false (undefs 3) (.Tuple [.Name "top" ⟨142, 35, 142, 38⟩, .Name "bottom" ⟨142, 40, 142, 46⟩] 0 ⟨142, 35, 142, 46⟩) v fun ρ' => TurnJ F' false ρ' [] (.BinOp (.Name "top" ⟨142, 17, 142, 20⟩) .FloorDiv (.Name "bottom" ⟨142, 24, 142, 30⟩) ⟨142, 17, 142, 30⟩) (by_pair gdiv v) := by
      rintro x y z hz rfl
      refine ⟨[1, 2], .cons (n1 hN') (.inl rfl) (.cons (n2 hN') (.inl rfl) .nil), rfl, ?_⟩
      show EJ F' false _ _ _
      refine ej_bin ?_
      refine ej_local 1 (n1 hN') rfl (by nofun) ?_
      refine ej_local 2 (n2 hN') rfl (by nofun) ?_
      refine bq_gdiv hz ?_
      show Option.map V.int (gdiv x y) = _
      rw [hz]; rfl
    rcases List.mem_cons.mp hv with e | hv
    · exact key _ _ _ ha e
    rcases List.mem_cons.mp hv with e | hv
    · exact key _ _ _ hb e
    rcases List.mem_cons.mp hv with e | hv
    · exact key _ _ _ hc e
    rcases List.mem_cons.mp hv with e | hv
    · exact key _ _ _ hd e
    cases hv
  have e : List.filterMap (by_pair gdiv) [V.tup [V.int low, V.int other0], V.tup [V.int low, V.int other1], V.tup [V.int high, V.int other0], V.tup [V.int high, V.int other1]] = (a :: [b, c, d]).map V.int := by
    simp [by_pair, ha, hb, hc, hd]
  rw [e]
  refine lj_nil ?_
  refine bc_minL ?_
  refine lj_cons ?_ rfl
  refine ej_bcall H.G 7 "max" (n7 hN) hb_max (by decide) H.b_max rfl rfl ?_
  refine lj_cons ?_ rfl
  refine ej_listcomp H.G (compOk_of (by decide)) (fun _ => rfl) ?_
  refine ej_local 5 (n5 hN) rfl (by nofun) ?_
  refine ⟨Nat.le_of_ble_eq_true rfl, by_pair p_up_over, fun F' hn' hs' v hv => ?_, ?_⟩
  · have hN' : F'.env.scope.names = [(Str.ofString ".0", NameKind.local), (Str.ofString "top", NameKind.local), (Str.ofString "bottom", NameKind.local), (Str.ofString "up_over", NameKind.globalImplicit)] := by rw [hs']
    have key : ∀ (x y z : Int), p_up_over x y = some z → v = V.tup [.int x, .int y] → TargetJ F' false (undefs 4) (.Tuple [.Name "top" ⟨142, 88, 142, 91⟩, .Name "bottom" ⟨142, 93, 142, 99⟩] 0 ⟨142, 88, 142, 99⟩) v fun ρ' => TurnJ F' false ρ' [] (.Call (.Name "up_over" ⟨142, 63, 142, 70⟩) [.Name "top" ⟨142, 71, 142, 74⟩, .Name "bottom" ⟨142, 76, 142, 82⟩] [] ⟨142, 63, 142, 83⟩) (by_pair p_up_over v) := by
      rintro x y z hz rfl
      refine ⟨[1, 2], .cons (n1 hN') (.inl rfl) (.cons (n2 hN') (.inl rfl) .nil), rfl, ?_⟩
      show EJ F' false _ _ _
      refine ej_call H.G 3 (n3 hN') rfl rfl H.f33.call ?_
      refine lj_cons ?_ rfl
      refine ej_local 1 (n1 hN') rfl (by nofun) ?_
      refine lj_cons ?_ rfl
      refine ej_local 2 (n2 hN') rfl (by nofun) ?_
      refine lj_nil ?_
      refine cl (hn'.trans hn) (t_up_over H (_, _) _ hz) (by decide) ?_
      show Option.map V.int (p_up_over x y) = _
      rw [hz]; rfl
    rcases List.mem_cons.mp hv with e | hv
    · exact key _ _ _ ha' e
    rcases List.mem_cons.mp hv with e | hv
    · exact key _ _ _ hb' e
    rcases List.mem_cons.mp hv with e | hv
    · exact key _ _ _ hc' e
    rcases List.mem_cons.mp hv with e | hv
    · exact key _ _ _ hd' e
    cases hv
  have e' : List.filterMap (by_pair p_up_over) [V.tup [V.int low, V.int other0], V.tup [V.int low, V.int other1], V.tup [V.int high, V.int other0], V.tup [V.int high, V.int other1]] = (a' :: [b', c', d']).map V.int := by
    simp [by_pair, ha', hb', hc', hd']
  rw [e']
  refine lj_nil ?_
  refine bc_maxL ?_
  refine lj_nil ?_
  refine ⟨Nat.le_of_ble_eq_true rfl, ?_⟩
  cases h; rfl
theorem t_quotient_of : SpE 3 "quotient_of" (dP dI (dP dT dT)) (fun a => p_quotient_of a.1 a.2.1.1 a.2.1.2 a.2.2.1 a.2.2.2) mT := fun H a r h => spec_quotient_of H h
noncomputable def e_quotient_of : En := enD (·.f41.call) t_quotient_of
noncomputable def p_decided_loop (precision : Int) (Fn : Int → Option (Option (Int × Int))) : Nat → Int → Option (Int × Int)
| 0, _ => none
| n + 1, work => (Fn work).bind fun t => match t with
  | none => (gmul 2 work).bind fun w => p_decided_loop precision Fn n w
  | some (a, b) => (gshl 1 work).bind fun x => (p_rounded precision a x).bind fun (m, e) => (gshl 1 work).bind fun y => (p_rounded precision b y).bind fun (m', e') =>
     (p_same_real m e m' e').bind fun s => if s = true then some (m, e) else (gmul 2 work).bind fun w => p_decided_loop precision Fn n w
noncomputable def p_decided (precision work : Int) (Fn : Int → Option (Option (Int × Int))) : Option (Int × Int) := p_decided_loop precision Fn 6 work
noncomputable def f_half (work : Int) : Option (Option (Int × Int)) := (p_half_turn work).bind fun (a, b) => some (some (a, b))
noncomputable def cvD (v : V) : Option (Int → Option (Option (Int × Int))) := match v with | .fn F => some F | .gl g => if Fast.sEq g (Str.ofString "half_turn") = true then some f_half else none | _ => none
theorem cvD_s {C : Cx} (H : C.All) {F : Fc C} (hn : F.n = 12) (v : V) (Fn : Int → Option (Option (Int × Int))) (h : cvD v = some Fn) : v ≠ .undef ∧ ∀ (k : Int) (b : Option (Int × Int)) (Q : V → Prop), Fn k = some b → Q (BV b) → FnQ C F.n [.int k] Q v := by
  rw [hn]
  cases v with
  | fn G => obtain rfl := Option.some.inj h; exact ⟨by nofun, fun k b Q e q => ⟨Nat.le_refl _, k, b, rfl, e, q⟩⟩
  | gl g =>
    obtain ⟨hg, h⟩ := gif_s h
    obtain rfl := Option.some.inj h
    rw [Fast.sEq_iff.mp hg]
    exact ⟨by nofun, fun k b Q e q => ⟨H.f47.call, by
      obtain ⟨⟨x, y⟩, h1, e⟩ := bind_s e
      obtain rfl := Option.some.inj e
      exact ((t_half_turn H _ _ h1).up (by decide)).imp fun v hv => hv ▸ q⟩⟩
  | _ => exact nope h
noncomputable def s_decided (precision : Int) (Fn : Int → Option (Option (Int × Int))) (L : Int × V × V × V → Option (Int × Int)) (a : Int × V × V × V) : Option (Int × Int) := (Fn a.1).bind fun t => match t with
  | none => (gmul 2 a.1).bind fun w => L (w, .none, a.2.2.1, a.2.2.2)
  | some p => (gshl 1 a.1).bind fun x => (p_rounded precision p.1 x).bind fun q => (gshl 1 a.1).bind fun y => (p_rounded precision p.2 y).bind fun q' =>
     (p_same_real q.1 q.2 q'.1 q'.2).bind fun s => if s = true then some (q.1, q.2) else (gmul 2 a.1).bind fun w => L (w, .tup [.int p.1, .int p.2], .real q.1 q.2, .real q'.1 q'.2)
theorem decided_f (precision : Int) (Fn : Int → Option (Option (Int × Int))) : loopN (s_decided precision Fn) 6 = fun a => p_decided_loop precision Fn 6 a.1 := loop_fn (A := Int × V × V × V) (fun n a => p_decided_loop precision Fn n a.1) rfl (fun n => by kernel_rfl) 6
theorem spec_decided {C : Cx} (H : C.All) {precision work : Int} {Fn : Int → Option (Option (Int × Int))} {r : Int × Int} (h : p_decided precision work Fn = some r) : Spec C 13 "decided" [.int precision, .int work, .fn Fn] (fun x => x = .real r.1 r.2) :=
  spec_runL H 51 H.f51 12 gsAll (fsE _ [e_rounded, e_same_real]) cvD 6 0 (A := Int × V × V × V) (fun a => [.int precision, .int a.1, .fn Fn, a.2.1, a.2.2.1, a.2.2.2, .undef, .undef]) (s_decided precision Fn)
    (fun k => k (work, .undef, .undef, .undef)) (by kernel_rfl) (by kernel_rfl) (gsAll_ok H) (fsE_ok H (by kernel_rfl)) (fun F hn => cvD_s H hn) (fun v => rR_s) (by kernel_rfl) (by kernel_rfl) (decided_f precision Fn) h
theorem spec_decided_half {C : Cx} (H : C.All) {precision work : Int} {r : Int × Int} (h : p_decided precision work f_half = some r) : Spec C 13 "decided" [.int precision, .int work, .gl "half_turn"] (fun x => x = .real r.1 r.2) :=
  spec_runL H 51 H.f51 12 gsAll (fsE _ [e_rounded, e_same_real]) cvD 6 0 (A := Int × V × V × V) (fun a => [.int precision, .int a.1, .gl "half_turn", a.2.1, a.2.2.1, a.2.2.2, .undef, .undef]) (s_decided precision f_half)
    (fun k => k (work, .undef, .undef, .undef)) (by kernel_rfl) (by kernel_rfl) (gsAll_ok H) (fsE_ok H (by kernel_rfl)) (fun F hn => cvD_s H hn) (fun v => rR_s) (by kernel_rfl) (by kernel_rfl) (decided_f precision f_half) h
noncomputable def m_decided {α : Type} (vs : List V) (K : V → Option α) : Option α := aI (fun p => aI fun w vs => match vs with
  | [] => none
  | v :: vs => a0 (someK (cvD v) fun Fn => (p_decided p w Fn).bind fun x => K (mR x)) vs) vs
theorem o_decided {C : Cx} (H : C.All) {F : Fc C} {α : Type} (hn : 13 ≤ F.n) : CallOk F (α := α) "decided" m_decided := callOk_of H H.f51.call fun vs K r h => by
  obtain ⟨p, l1, e1, h1⟩ := aI_s h
  obtain ⟨w, l2, e2, h2⟩ := aI_s h1
  rw [e1, e2]
  cases l2 with
  | nil => exact nope h2
  | cons v l =>
    obtain ⟨e3, h⟩ := a0_s h2
    rw [e3]
    obtain ⟨Fn, hv, h⟩ := someK_s h
    obtain ⟨x, hx, h⟩ := bind_s h
    refine ⟨mR x, 13, h, hn, ?_⟩
    cases v with
    | fn G => obtain rfl := Option.some.inj hv; exact spec_decided H hx
    | gl g =>
      obtain ⟨hg, hv⟩ := gif_s hv
      obtain rfl := Option.some.inj hv
      rw [Fast.sEq_iff.mp hg]
      exact spec_decided_half H hx
    | _ => exact nope hv
noncomputable def e_decided : En := ⟨"decided", 13, m_decided, fun {_} H {_ _} hn => o_decided H hn⟩
noncomputable def p_reduced_by_twos (work : Int) (realm : Int) (reale : Int) : Option (Int × Int × Int) :=
(p_fraction_of realm reale).bind fun (t2, t3) =>
(p_fraction_bounds work t2 t3).bind fun (t5, t6) =>
(p_log_of_two work).bind fun (t8, t9) =>
(gdiv t5 t9).bind fun t11 =>
(p_often t8 t9 t11).bind fun (t13, t14) =>
(p_less_of t5 t6 t13 t14).bind fun (t16, t17) =>
some (t11, t16, t17)
theorem t_reduced_by_twos : SpE 4 "reduced_by_twos" (dP dI dR) (fun a => p_reduced_by_twos a.1 a.2.1 a.2.2) mP := spE (m := 2) 52 (·.f52) [e_fraction_of, e_fraction_bounds, e_log_of_two, e_less_of, e_often] rP_s (by kernel_rfl) (by kernel_rfl) (fun _ => rfl) (by kernel_rfl)
noncomputable def e_reduced_by_twos : En := enD (·.f52.call) t_reduced_by_twos
noncomputable def p_log_bounds (work : Int) (realm : Int) (reale : Int) : Option (Int × Int) :=
(p_place_of realm reale).bind fun t2 =>
(gshl 1 (Builtin.Int.intBits realm : Int)).bind fun t4 =>
(gmul 4 realm).bind fun t6 =>
(gmul 3 t4).bind fun t8 =>
if (decide (t6 < t8)) = true then (
(gmul 2 realm).bind fun t10 =>
(p_odd_series work (t10 - t4) (t10 + t4) 1).bind fun (t12, t13) =>
(p_often t12 t13 2).bind fun (t15, t16) =>
(p_log_of_two work).bind fun (t18, t19) =>
(p_often t18 t19 (t2 - 1)).bind fun (t21, t22) =>
(p_more_of t21 t22 t15 t16).bind fun (t24, t25) =>
some (t24, t25)) else (
(p_odd_series work (realm - t4) (realm + t4) 1).bind fun (t27, t28) =>
(p_often t27 t28 2).bind fun (t30, t31) =>
(p_log_of_two work).bind fun (t33, t34) =>
(p_often t33 t34 t2).bind fun (t36, t37) =>
(p_more_of t36 t37 t30 t31).bind fun (t39, t40) =>
some (t39, t40))
theorem t_log_bounds : SpE 4 "log_bounds" (dP dI dR) (fun a => p_log_bounds a.1 a.2.1 a.2.2) mT := spE (m := 2) 54 (·.f54) [e_place_of, e_often, e_more_of, e_odd_series, e_log_of_two] rT_s (by kernel_rfl) (by kernel_rfl) (fun _ => rfl) (by kernel_rfl)
noncomputable def e_log_bounds : En := enD (·.f54.call) t_log_bounds
noncomputable def p_quarter_turns (work : Int) (realm : Int) (reale : Int) : Option (Int × Int × Int) :=
(p_fraction_of realm reale).bind fun (t2, t3) =>
(p_fraction_bounds work t2 t3).bind fun (t5, t6) =>
(p_half_turn work).bind fun (t8, t9) =>
(gmul 2 t5).bind fun t11 =>
(gdiv t8 2).bind fun t13 =>
(gdiv (t11 + t13) t8).bind fun t15 =>
(p_often t8 t9 t15).bind fun (t17, t18) =>
(p_part_of t17 t18 2).bind fun (t20, t21) =>
(p_less_of t5 t6 t20 t21).bind fun (t23, t24) =>
some (t15, t23, t24)
theorem t_quarter_turns : SpE 4 "quarter_turns" (dP dI dR) (fun a => p_quarter_turns a.1 a.2.1 a.2.2) mP := spE (m := 2) 56 (·.f56) [e_fraction_of, e_fraction_bounds, e_half_turn, e_less_of, e_part_of, e_often] rP_s (by kernel_rfl) (by kernel_rfl) (fun _ => rfl) (by kernel_rfl)
noncomputable def e_quarter_turns : En := enD (·.f56.call) t_quarter_turns
noncomputable def p_wave_bounds (work : Int) (rest0 : Int) (rest1 : Int) (turns : Int) : Option (Int × Int) :=
(gmod turns 2).bind fun t2 =>
if (decide (t2 = 0)) = true then (
(p_wave_series work rest0 rest1 rest0 rest1 2).bind fun (t4, t5) =>
(gmod turns 4).bind fun t7 =>
if (decide (t7 < 2)) = true then (
some (t4, t5)) else (
(p_contrary_of t4 t5).bind fun (t9, t10) =>
some (t9, t10))) else (
(gshl 1 work).bind fun t12 =>
(gshl 1 work).bind fun t14 =>
(p_wave_series work rest0 rest1 t12 t14 1).bind fun (t16, t17) =>
(gmod turns 4).bind fun t19 =>
if (decide (t19 < 2)) = true then (
some (t16, t17)) else (
(p_contrary_of t16 t17).bind fun (t21, t22) =>
some (t21, t22)))
theorem t_wave_bounds : SpE 4 "wave_bounds" (dP dI (dP dT dI)) (fun a => p_wave_bounds a.1 a.2.1.1 a.2.1.2 a.2.2) mT := spE (m := 3) 57 (·.f57) [e_wave_series, e_contrary_of] rT_s (by kernel_rfl) (by kernel_rfl) (fun _ => rfl) (by kernel_rfl)
noncomputable def e_wave_bounds : En := enD (·.f57.call) t_wave_bounds
noncomputable def p_need_turns (realm : Int) (reale : Int) : Option (Unit) :=
(p_sign_of realm reale).bind fun t2 =>
if (!decide (t2 = 0)) = true then (
(p_place_of realm reale).bind fun t4 =>
if (decide (512 < t4)) = true then (
none) else (
some ())) else (
some ())
theorem t_need_turns : SpE 3 "need_turns" (dP dS dR) (fun a => p_need_turns a.2.1 a.2.2) mN := spE (m := 2) 58 (·.f58) [e_sign_of, e_place_of] rN_s (by kernel_rfl) (by kernel_rfl) (fun _ => rfl) (by kernel_rfl)
noncomputable def e_need_turns : En := enD (·.f58.call) t_need_turns
noncomputable def p_is_slight (precision : Int) (realm : Int) (reale : Int) : Option (Bool) :=
(p_place_of realm reale).bind fun t2 =>
(gmul 2 t2).bind fun t4 =>
some ((decide (t4 < ((0 - precision) - 4))))
theorem t_is_slight : SpE 3 "is_slight" (dP dI dR) (fun a => p_is_slight a.1 a.2.1 a.2.2) mB := spE (m := 2) 59 (·.f59) [e_place_of] rB_s (by kernel_rfl) (by kernel_rfl) (fun _ => rfl) (by kernel_rfl)
noncomputable def e_is_slight : En := enD (·.f59.call) t_is_slight
noncomputable def p_angle_work (precision : Int) (realm : Int) (reale : Int) : Option (Int) :=
(gmul 2 precision).bind fun t2 =>
(p_place_of realm reale).bind fun t4 =>
some (((t2 + 12) + (t4.natAbs : Int)))
theorem t_angle_work : SpE 3 "angle_work" (dP dI dR) (fun a => p_angle_work a.1 a.2.1 a.2.2) mI := spE (m := 2) 60 (·.f60) [e_abs, e_place_of] rI_s (by kernel_rfl) (by kernel_rfl) (fun _ => rfl) (by kernel_rfl)
noncomputable def e_angle_work : En := enD (·.f60.call) t_angle_work
noncomputable def p_tan_bounds (work : Int) (realm : Int) (reale : Int) : Option (Option (Int × Int)) :=
(p_quarter_turns work realm reale).bind fun (t2, t3, t4) =>
(p_wave_bounds work t3 t4 t2).bind fun (t6, t7) =>
(p_wave_bounds work t3 t4 (t2 + 1)).bind fun (t9, t10) =>
if (decide (t10 < 0)) = true then (
(p_contrary_of t6 t7).bind fun (t12, t13) =>
(p_contrary_of t9 t10).bind fun (t15, t16) =>
if (decide (0 < t15)) = true then (
(p_quotient_of work t12 t13 t15 t16).bind fun (t18, t19) =>
some (some (t18, t19))) else (
some none)) else (
if (decide (0 < t9)) = true then (
(p_quotient_of work t6 t7 t9 t10).bind fun (t21, t22) =>
some (some (t21, t22))) else (
some none))
theorem t_tan_bounds : SpE 5 "tan_bounds" (dP dI dR) (fun a => p_tan_bounds a.1 a.2.1 a.2.2) BV := spE (m := 2) 63 (·.f63) [e_quarter_turns, e_wave_bounds, e_quotient_of, e_contrary_of] rV_s (by kernel_rfl) (by kernel_rfl) (fun _ => rfl) (by kernel_rfl)
noncomputable def e_tan_bounds : En := enO BV_o (·.f63.call) t_tan_bounds
noncomputable def p_small_arc (work : Int) (top : Int) (bottom : Int) : Option (Int × Int) :=
(gmul 10 top).bind fun t2 =>
(gmul 7 bottom).bind fun t4 =>
if (decide (t4 < t2)) = true then (
(p_half_turn work).bind fun (t6, t7) =>
(p_part_of t6 t7 4).bind fun (t9, t10) =>
(p_odd_series work (top - bottom) (top + bottom) (-1)).bind fun (t12, t13) =>
(p_more_of t9 t10 t12 t13).bind fun (t15, t16) =>
some (t15, t16)) else (
(gmul 4 top).bind fun t18 =>
if (decide (bottom < t18)) = true then (
(gmul 2 top).bind fun t20 =>
(gmul 2 bottom).bind fun t22 =>
(p_odd_series work (t20 - bottom) (t22 + top) (-1)).bind fun (t24, t25) =>
(p_inverse_series work 2 (-1)).bind fun (t27, t28) =>
(p_more_of t27 t28 t24 t25).bind fun (t30, t31) =>
some (t30, t31)) else (
(p_odd_series work top bottom (-1)).bind fun (t33, t34) =>
some (t33, t34)))
theorem t_small_arc : SpE 4 "small_arc" (dP dI (dP dI dI)) (fun a => p_small_arc a.1 a.2.1 a.2.2) mT := spE (m := 3) 65 (·.f65) [e_odd_series, e_more_of, e_part_of, e_inverse_series, e_half_turn] rT_s (by kernel_rfl) (by kernel_rfl) (fun _ => rfl) (by kernel_rfl)
noncomputable def e_small_arc : En := enD (·.f65.call) t_small_arc
noncomputable def p_arc_bounds0 (work : Int) (top : Int) (bottom : Int) : Option (Int × Int) :=
if (decide (top < 0)) = true then (
none) else (
if (decide (top ≤ bottom)) = true then (
(p_small_arc work top bottom).bind fun (t2, t3) =>
some (t2, t3)) else (
(p_half_turn work).bind fun (t5, t6) =>
(p_part_of t5 t6 2).bind fun (t8, t9) =>
(p_small_arc work bottom top).bind fun (t11, t12) =>
(p_less_of t8 t9 t11 t12).bind fun (t14, t15) =>
some (t14, t15)))
theorem t_arc_bounds0 : SpE 5 "arc_bounds" (dP dI (dP dI dI)) (fun a => p_arc_bounds0 a.1 a.2.1 a.2.2) mT := spE (m := 3) 66 (·.f66) [e_less_of, e_contrary_of, e_small_arc, e_part_of, e_half_turn] rT_s (by kernel_rfl) (by kernel_rfl) (fun _ => rfl) (by kernel_rfl)
noncomputable def e_arc_bounds0 : En := enD (·.f66.call) t_arc_bounds0
noncomputable def p_arc_bounds (work : Int) (top : Int) (bottom : Int) : Option (Int × Int) :=
if (decide (top < 0)) = true then (
(p_arc_bounds0 work (0 - top) bottom).bind fun (t2, t3) =>
(p_contrary_of t2 t3).bind fun (t5, t6) =>
some (t5, t6)) else (
if (decide (top ≤ bottom)) = true then (
(p_small_arc work top bottom).bind fun (t8, t9) =>
some (t8, t9)) else (
(p_half_turn work).bind fun (t11, t12) =>
(p_part_of t11 t12 2).bind fun (t14, t15) =>
(p_small_arc work bottom top).bind fun (t17, t18) =>
(p_less_of t14 t15 t17 t18).bind fun (t20, t21) =>
some (t20, t21)))
theorem t_arc_bounds : SpE 6 "arc_bounds" (dP dI (dP dI dI)) (fun a => p_arc_bounds a.1 a.2.1 a.2.2) mT := spE (m := 3) 66 (·.f66) [e_less_of, e_contrary_of, e_small_arc, e_part_of, e_arc_bounds0, e_half_turn] rT_s (by kernel_rfl) (by kernel_rfl) (fun _ => rfl) (by kernel_rfl)
noncomputable def e_arc_bounds : En := enD (·.f66.call) t_arc_bounds
noncomputable def p_arc_within (work : Int) (bounds0 : Int) (bounds1 : Int) : Option (Int × Int) :=
(gshl 1 work).bind fun t2 =>
(p_arc_bounds work bounds0 t2).bind fun (t4, t5) =>
(gshl 1 work).bind fun t7 =>
(p_arc_bounds work bounds1 t7).bind fun (t9, t10) =>
some (t4, t10)
theorem t_arc_within : SpE 7 "arc_within" (dP dI dT) (fun a => p_arc_within a.1 a.2.1 a.2.2) mT := spE (m := 2) 67 (·.f67) [e_arc_bounds] rT_s (by kernel_rfl) (by kernel_rfl) (fun _ => rfl) (by kernel_rfl)
noncomputable def e_arc_within : En := enD (·.f67.call) t_arc_within
noncomputable def p_root_bounds (work : Int) (top : Int) (bottom : Int) : Option (Int × Int) :=
(gmul 2 work).bind fun t2 =>
(gshl top t2).bind fun t4 =>
(gdiv t4 bottom).bind fun t6 =>
(p_root_below t6).bind fun t8 =>
some (t8, (t8 + 1))
theorem t_root_bounds : SpE 2 "root_bounds" (dP dI (dP dI dI)) (fun a => p_root_bounds a.1 a.2.1 a.2.2) mT := spE (m := 3) 69 (·.f69) [e_root_below] rT_s (by kernel_rfl) (by kernel_rfl) (fun _ => rfl) (by kernel_rfl)
noncomputable def e_root_bounds : En := enD (·.f69.call) t_root_bounds
noncomputable def p_need_sine (realm : Int) (reale : Int) : Option (Unit) :=
(p_fraction_of realm reale).bind fun (t2, t3) =>
if (decide (t3 < (t2.natAbs : Int))) = true then (
none) else (
some ())
theorem t_need_sine : SpE 2 "need_sine" (dP dS dR) (fun a => p_need_sine a.2.1 a.2.2) mN := spE (m := 2) 70 (·.f70) [e_fraction_of, e_abs] rN_s (by kernel_rfl) (by kernel_rfl) (fun _ => rfl) (by kernel_rfl)
noncomputable def e_need_sine : En := enD (·.f70.call) t_need_sine
noncomputable def p_asin_bounds (work : Int) (realm : Int) (reale : Int) : Option (Option (Int × Int)) :=
(p_fraction_of realm reale).bind fun (t2, t3) =>
(gmul t3 t3).bind fun t5 =>
(gmul t2 t2).bind fun t7 =>
(gmul t3 t3).bind fun t9 =>
(p_root_bounds work (t5 - t7) t9).bind fun (t11, t12) =>
if (decide (t11 ≤ 0)) = true then (
some none) else (
(p_fraction_bounds work t2 t3).bind fun (t14, t15) =>
(p_quotient_of work t14 t15 t11 t12).bind fun (t17, t18) =>
(p_arc_within work t17 t18).bind fun (t20, t21) =>
some (some (t20, t21)))
theorem t_asin_bounds : SpE 8 "asin_bounds" (dP dI dR) (fun a => p_asin_bounds a.1 a.2.1 a.2.2) BV := spE (m := 2) 71 (·.f71) [e_fraction_of, e_root_bounds, e_arc_within, e_quotient_of, e_fraction_bounds] rV_s (by kernel_rfl) (by kernel_rfl) (fun _ => rfl) (by kernel_rfl)
noncomputable def e_asin_bounds : En := enO BV_o (·.f71.call) t_asin_bounds
noncomputable def p_acos_bounds (work : Int) (realm : Int) (reale : Int) : Option (Int × Int) :=
(p_fraction_of realm reale).bind fun (t2, t3) =>
(p_root_bounds work (t3 - t2) (t3 + t2)).bind fun (t5, t6) =>
(p_arc_within work t5 t6).bind fun (t8, t9) =>
(p_often t8 t9 2).bind fun (t11, t12) =>
some (t11, t12)
theorem t_acos_bounds : SpE 8 "acos_bounds" (dP dI dR) (fun a => p_acos_bounds a.1 a.2.1 a.2.2) mT := spE (m := 2) 74 (·.f74) [e_fraction_of, e_often, e_arc_within, e_root_bounds] rT_s (by kernel_rfl) (by kernel_rfl) (fun _ => rfl) (by kernel_rfl)
noncomputable def e_acos_bounds : En := enD (·.f74.call) t_acos_bounds
noncomputable def p_ratio_of_reals (highm : Int) (highe : Int) (widem : Int) (widee : Int) : Option (Int × Int) :=
(p_sign_of widem widee).bind fun t2 =>
(gmul highm t2).bind fun t4 =>
if (decide (0 ≤ (highe - widee))) = true then (
(gshl t4 (highe - widee)).bind fun t6 =>
some (t6, (widem.natAbs : Int))) else (
(gshl (widem.natAbs : Int) (0 - (highe - widee))).bind fun t8 =>
some (t4, t8))
theorem t_ratio_of_reals : SpE 3 "ratio_of_reals" (dP dR dR) (fun a => p_ratio_of_reals a.1.1 a.1.2 a.2.1 a.2.2) mT := spE (m := 2) 76 (·.f76) [e_abs, e_sign_of] rT_s (by kernel_rfl) (by kernel_rfl) (fun _ => rfl) (by kernel_rfl)
noncomputable def e_ratio_of_reals : En := enD (·.f76.call) t_ratio_of_reals
noncomputable def p_slight_arc (precision : Int) (top : Int) (bottom : Int) : Option (Option (Int × Int)) :=
(gmul top top).bind fun t2 =>
(gmul t2 top).bind fun t4 =>
(gmul bottom bottom).bind fun t6 =>
(gmul t6 bottom).bind fun t8 =>
(gmul 3 top).bind fun t10 =>
(gmul t10 bottom).bind fun t12 =>
(gmul t12 bottom).bind fun t14 =>
(gmul 3 t8).bind fun t16 =>
(p_rounded precision (t14 - t4) t16).bind fun (t18, t19) =>
(gmul 4 top).bind fun t21 =>
(gmul t21 bottom).bind fun t23 =>
(gmul t23 bottom).bind fun t25 =>
(gmul 4 t8).bind fun t27 =>
(p_rounded precision (t25 - t4) t27).bind fun (t29, t30) =>
(p_same_real t18 t19 t29 t30).bind fun t32 =>
if t32 = true then (
some (some (t18, t19))) else (
some none)
theorem t_slight_arc : SpE 8 "slight_arc" (dP dI (dP dI dI)) (fun a => p_slight_arc a.1 a.2.1 a.2.2) RV := spE (m := 3) 77 (·.f77) [e_rounded, e_same_real] rO_s (by kernel_rfl) (by kernel_rfl) (fun _ => rfl) (by kernel_rfl)
noncomputable def e_slight_arc : En := enO RV_o (·.f77.call) t_slight_arc
end Mine
end
section
namespace Mine
noncomputable def p_quarter (sign : Int) (work : Int) : Option (Option (Int × Int)) :=
(p_half_turn work).bind fun (a, b) => (p_part_of a b 2).bind fun (c, d) => (p_often c d sign).bind fun (x, y) => some (some (x, y))
noncomputable def rF (v : V) : Option (Int → Option (Option (Int × Int))) := match v with | .fn F => some F | _ => none
theorem rF_s {v : V} {r : Int → Option (Option (Int × Int))} (h : rF v = some r) : v = .fn r := by
  cases v with
  | fn F => rw [Option.some.inj h]
  | _ => exact nope h
theorem t_quarter_of : SpE 2 "quarter_of" dI (fun a => some (p_quarter a)) V.fn := spC (m := 1) 72 (·.f72) [e_often, e_part_of, e_half_turn] rF_s (by kernel_rfl) (by kernel_rfl) (fun _ => rfl) (by kernel_rfl)
noncomputable def e_quarter_of : En := enD (·.f72.call) t_quarter_of
noncomputable def p_exp_real_in (real_m real_e times_0 : Int) (work : Int) : Option (Option (Int × Int)) :=
(p_log_of_two work).bind fun (t502, t503) =>
(p_fraction_of real_m real_e).bind fun (t505, t506) =>
(p_fraction_bounds work t505 t506).bind fun (t508, t509) =>
(p_often t502 t503 times_0).bind fun (t511, t512) =>
(p_less_of t508 t509 t511 t512).bind fun (t514, t515) =>
(p_exp_series work t514 t515).bind fun (t517, t518) =>
(some (some (t517, t518) : Option (Int × Int)))
noncomputable def p_exp_real (precision : Int) (realm : Int) (reale : Int) : Option (Int × Int) :=
(p_sign_of realm reale).bind fun t2 =>
if (decide (t2 = 0)) = true then (
some (1, 0)) else (
(p_place_of realm reale).bind fun t4 =>
if (decide (17 < t4)) = true then (
none) else (
(p_place_of realm reale).bind fun t6 =>
if (decide (t6 < ((0 - precision) - 2))) = true then (
some (1, 0)) else (
(p_reduced_by_twos ((precision + 12) + 17) realm reale).bind fun (t8, t9, t10) =>
(p_decided precision ((precision + 12) + 17) (p_exp_real_in realm reale t8)).bind fun (t12, t13) =>
(p_lean t12 (t13 + t8)).bind fun (t15, t16) =>
some (t15, t16))))
theorem t_exp_real : SpE 14 "exp_real" (dP dI dR) (fun a => p_exp_real a.1 a.2.1 a.2.2) mR := spC (m := 2) 53 (·.f53) [e_decided, e_lean, e_sign_of, e_Real, e_place_of, e_reduced_by_twos, e_log_of_two, e_fraction_of, e_exp_series, e_less_of, e_fraction_bounds, e_often] rR_s (by kernel_rfl) (by kernel_rfl) (fun _ => rfl) (by kernel_rfl)
noncomputable def e_exp_real : En := enD (·.f53.call) t_exp_real
noncomputable def p_log_real_in (real_m real_e : Int) (work : Int) : Option (Option (Int × Int)) :=
(p_log_bounds work real_m real_e).bind fun (t502, t503) =>
(some (some (t502, t503) : Option (Int × Int)))
noncomputable def p_log_real (precision : Int) (realm : Int) (reale : Int) : Option (Int × Int) :=
(p_sign_of realm reale).bind fun t2 =>
if (decide (t2 ≤ 0)) = true then (
none) else (
if (decide (realm = 1)) = true then (
if (decide (reale = 0)) = true then (
some (0, 0)) else (
(gmul 2 precision).bind fun t4 =>
(p_decided precision (t4 + 12) (p_log_real_in realm reale)).bind fun (t6, t7) =>
some (t6, t7))) else (
(gmul 2 precision).bind fun t9 =>
(p_decided precision (t9 + 12) (p_log_real_in realm reale)).bind fun (t11, t12) =>
some (t11, t12)))
theorem t_log_real : SpE 14 "log_real" (dP dI dR) (fun a => p_log_real a.1 a.2.1 a.2.2) mR := spC (m := 2) 55 (·.f55) [e_decided, e_sign_of, e_Real, e_log_bounds] rR_s (by kernel_rfl) (by kernel_rfl) (fun _ => rfl) (by kernel_rfl)
noncomputable def e_log_real : En := enD (·.f55.call) t_log_real
noncomputable def p_sin_real_in (real_m real_e : Int) (work : Int) : Option (Option (Int × Int)) :=
(p_quarter_turns work real_m real_e).bind fun (t502, t503, t504) =>
(p_wave_bounds work t503 t504 t502).bind fun (t506, t507) =>
(some (some (t506, t507) : Option (Int × Int)))
noncomputable def p_sin_real (precision : Int) (realm : Int) (reale : Int) : Option (Int × Int) :=
(p_need_turns realm reale).bind fun _ =>
(p_sign_of realm reale).bind fun t3 =>
if (decide (t3 = 0)) = true then (
some (realm, reale)) else (
(p_is_slight precision realm reale).bind fun t5 =>
if t5 = true then (
some (realm, reale)) else (
(p_angle_work precision realm reale).bind fun t7 =>
(p_decided precision t7 (p_sin_real_in realm reale)).bind fun (t9, t10) =>
some (t9, t10)))
theorem t_sin_real : SpE 14 "sin_real" (dP dI dR) (fun a => p_sin_real a.1 a.2.1 a.2.2) mR := spC (m := 2) 61 (·.f61) [e_need_turns, e_decided, e_is_slight, e_quarter_turns, e_wave_bounds, e_angle_work, e_sign_of] rR_s (by kernel_rfl) (by kernel_rfl) (fun _ => rfl) (by kernel_rfl)
noncomputable def e_sin_real : En := enD (·.f61.call) t_sin_real
noncomputable def p_cos_real_in (real_m real_e : Int) (work : Int) : Option (Option (Int × Int)) :=
(p_quarter_turns work real_m real_e).bind fun (t502, t503, t504) =>
(p_wave_bounds work t503 t504 (t502 + 1)).bind fun (t506, t507) =>
(some (some (t506, t507) : Option (Int × Int)))
noncomputable def p_cos_real (precision : Int) (realm : Int) (reale : Int) : Option (Int × Int) :=
(p_need_turns realm reale).bind fun _ =>
(p_sign_of realm reale).bind fun t3 =>
if (decide (t3 = 0)) = true then (
some (1, 0)) else (
(p_is_slight precision realm reale).bind fun t5 =>
if t5 = true then (
some (1, 0)) else (
(p_angle_work precision realm reale).bind fun t7 =>
(p_decided precision t7 (p_cos_real_in realm reale)).bind fun (t9, t10) =>
some (t9, t10)))
theorem t_cos_real : SpE 14 "cos_real" (dP dI dR) (fun a => p_cos_real a.1 a.2.1 a.2.2) mR := spC (m := 2) 62 (·.f62) [e_need_turns, e_decided, e_is_slight, e_Real, e_quarter_turns, e_wave_bounds, e_angle_work, e_sign_of] rR_s (by kernel_rfl) (by kernel_rfl) (fun _ => rfl) (by kernel_rfl)
noncomputable def e_cos_real : En := enD (·.f62.call) t_cos_real
noncomputable def p_tan_real_in (real_m real_e : Int) (work : Int) : Option (Option (Int × Int)) :=
(p_tan_bounds work real_m real_e).bind fun t502 => match t502 with
| none => ((some (none : Option (Int × Int))))
| some (t503, t504) => ((some (some (t503, t504) : Option (Int × Int))))
noncomputable def p_tan_real (precision : Int) (realm : Int) (reale : Int) : Option (Int × Int) :=
(p_need_turns realm reale).bind fun _ =>
(p_sign_of realm reale).bind fun t3 =>
if (decide (t3 = 0)) = true then (
some (realm, reale)) else (
(p_is_slight precision realm reale).bind fun t5 =>
if t5 = true then (
some (realm, reale)) else (
(p_angle_work precision realm reale).bind fun t7 =>
(p_decided precision t7 (p_tan_real_in realm reale)).bind fun (t9, t10) =>
some (t9, t10)))
theorem t_tan_real : SpE 14 "tan_real" (dP dI dR) (fun a => p_tan_real a.1 a.2.1 a.2.2) mR := spC (m := 2) 64 (·.f64) [e_need_turns, e_decided, e_is_slight, e_angle_work, e_sign_of, e_tan_bounds] rR_s (by kernel_rfl) (by kernel_rfl) (fun _ => rfl) (by kernel_rfl)
noncomputable def e_tan_real : En := enD (·.f64.call) t_tan_real
noncomputable def p_atan_real_in (bottom_0 top_0 : Int) (work : Int) : Option (Option (Int × Int)) :=
(p_arc_bounds work top_0 bottom_0).bind fun (t502, t503) =>
(some (some (t502, t503) : Option (Int × Int)))
noncomputable def p_atan_real (precision : Int) (realm : Int) (reale : Int) : Option (Int × Int) :=
(p_sign_of realm reale).bind fun t2 =>
if (decide (t2 = 0)) = true then (
some (realm, reale)) else (
(p_is_slight precision realm reale).bind fun t4 =>
if t4 = true then (
some (realm, reale)) else (
(p_fraction_of realm reale).bind fun (t6, t7) =>
(gmul 2 precision).bind fun t9 =>
(p_place_of realm reale).bind fun t11 =>
(p_decided precision ((t9 + 12) + (max 0 (0 - t11))) (p_atan_real_in t7 t6)).bind fun (t13, t14) =>
some (t13, t14)))
theorem t_atan_real : SpE 14 "atan_real" (dP dI dR) (fun a => p_atan_real a.1 a.2.1 a.2.2) mR := spC (m := 2) 68 (·.f68) [e_fraction_of, e_decided, e_is_slight, e_max, e_sign_of, e_arc_bounds, e_place_of] rR_s (by kernel_rfl) (by kernel_rfl) (fun _ => rfl) (by kernel_rfl)
noncomputable def e_atan_real : En := enD (·.f68.call) t_atan_real
noncomputable def p_acos_real_in (real_m real_e : Int) (work : Int) : Option (Option (Int × Int)) :=
(p_acos_bounds work real_m real_e).bind fun (t502, t503) =>
(some (some (t502, t503) : Option (Int × Int)))
noncomputable def p_acos_real (precision : Int) (realm : Int) (reale : Int) : Option (Int × Int) :=
(p_need_sine realm reale).bind fun _ =>
if (decide (realm = 1)) = true then (
if (decide (reale = 0)) = true then (
some (0, 0)) else (
(gmul 2 precision).bind fun t3 =>
if (decide (realm = (-1))) = true then (
if (decide (reale = 0)) = true then (
(p_decided precision (t3 + 12) f_half).bind fun (t5, t6) =>
some (t5, t6)) else (
(p_decided precision (t3 + 12) (p_acos_real_in realm reale)).bind fun (t8, t9) =>
some (t8, t9))) else (
(p_decided precision (t3 + 12) (p_acos_real_in realm reale)).bind fun (t11, t12) =>
some (t11, t12)))) else (
(gmul 2 precision).bind fun t14 =>
if (decide (realm = (-1))) = true then (
if (decide (reale = 0)) = true then (
(p_decided precision (t14 + 12) f_half).bind fun (t16, t17) =>
some (t16, t17)) else (
(p_decided precision (t14 + 12) (p_acos_real_in realm reale)).bind fun (t19, t20) =>
some (t19, t20))) else (
(p_decided precision (t14 + 12) (p_acos_real_in realm reale)).bind fun (t22, t23) =>
some (t22, t23)))
theorem t_acos_real : SpE 14 "acos_real" (dP dI dR) (fun a => p_acos_real a.1 a.2.1 a.2.2) mR := spC (m := 2) 75 (·.f75) [e_need_sine, e_decided, e_Real, e_half_turn, e_acos_bounds] rR_s (by kernel_rfl) (by kernel_rfl) (fun _ => rfl) (by kernel_rfl)
noncomputable def e_acos_real : En := enD (·.f75.call) t_acos_real
noncomputable def p_asin_real_in (real_m real_e : Int) (work : Int) : Option (Option (Int × Int)) :=
(p_asin_bounds work real_m real_e).bind fun t502 => match t502 with
| none => ((some (none : Option (Int × Int))))
| some (t503, t504) => ((some (some (t503, t504) : Option (Int × Int))))
noncomputable def p_asin_real (precision : Int) (realm : Int) (reale : Int) : Option (Int × Int) :=
(p_need_sine realm reale).bind fun _ =>
(p_sign_of realm reale).bind fun t3 =>
if (decide (t3 = 0)) = true then (
some (realm, reale)) else (
(p_is_slight precision realm reale).bind fun t5 =>
if t5 = true then (
some (realm, reale)) else (
(gmul 2 precision).bind fun t7 =>
(p_place_of realm reale).bind fun t9 =>
if (decide ((realm.natAbs : Int) = 1)) = true then (
if (decide (reale = 0)) = true then (
(p_sign_of realm reale).bind fun t11 =>
(p_decided precision ((t7 + 12) + (max 0 (0 - t9))) (p_quarter t11)).bind fun (t13, t14) =>
some (t13, t14)) else (
(p_decided precision ((t7 + 12) + (max 0 (0 - t9))) (p_asin_real_in realm reale)).bind fun (t16, t17) =>
some (t16, t17))) else (
(p_decided precision ((t7 + 12) + (max 0 (0 - t9))) (p_asin_real_in realm reale)).bind fun (t19, t20) =>
some (t19, t20))))
theorem t_asin_real : SpE 14 "asin_real" (dP dI dR) (fun a => p_asin_real a.1 a.2.1 a.2.2) mR := spC (m := 2) 73 (·.f73) [e_need_sine, e_decided, e_is_slight, e_max, e_sign_of, e_abs, e_quarter_of, e_asin_bounds, e_place_of] rR_s (by kernel_rfl) (by kernel_rfl) (fun _ => rfl) (by kernel_rfl)
noncomputable def e_asin_real : En := enD (·.f73.call) t_asin_real
end Mine
end
section
namespace Mine
noncomputable def p_atan_two_real_in (bottom_0 top_0 turn_0 : Int) (work : Int) : Option (Option (Int × Int)) :=
(p_arc_bounds work top_0 bottom_0).bind fun (t502, t503) =>
(p_half_turn work).bind fun (t505, t506) =>
(p_often t505 t506 turn_0).bind fun (t508, t509) =>
(p_more_of t502 t503 t508 t509).bind fun (t511, t512) =>
(some (some (t511, t512) : Option (Int × Int)))
noncomputable def p_atan_two_real (precision : Int) (highm : Int) (highe : Int) (widem : Int) (widee : Int) : Option (Int × Int) :=
(p_sign_of widem widee).bind fun t2 =>
if (decide (t2 = 0)) = true then (
(p_sign_of highm highe).bind fun t4 =>
if (decide (t4 = 0)) = true then (
none) else (
(p_sign_of highm highe).bind fun t6 =>
(p_decided precision (precision + 12) (p_quarter t6)).bind fun (t8, t9) =>
some (t8, t9))) else (
(p_sign_of highm highe).bind fun t11 =>
if (decide (t11 = 0)) = true then (
(p_sign_of widem widee).bind fun t13 =>
if (decide (0 < t13)) = true then (
some (0, 0)) else (
(p_decided precision (precision + 12) f_half).bind fun (t15, t16) =>
some (t15, t16))) else (
(p_ratio_of_reals highm highe widem widee).bind fun (t18, t19) =>
(p_sign_of widem widee).bind fun t21 =>
if (decide (0 < t21)) = true then (
if (decide ((precision + 4) < (max 0 ((Builtin.Int.intBits t19 : Int) - (Builtin.Int.intBits (t18.natAbs : Int) : Int))))) = true then (
(p_slight_arc precision (t18.natAbs : Int) t19).bind fun t23 => match t23 with
| none => ((p_sign_of widem widee).bind fun t27 =>
if (decide (0 < t27)) = true then (
(gmul 2 precision).bind fun t29 =>
(p_decided precision ((t29 + 12) + (max 0 ((Builtin.Int.intBits t19 : Int) - (Builtin.Int.intBits (t18.natAbs : Int) : Int)))) (p_atan_two_real_in t19 t18 0)).bind fun (t31, t32) =>
some (t31, t32)) else (
(p_sign_of highm highe).bind fun t34 =>
(gmul 2 precision).bind fun t36 =>
(p_decided precision ((t36 + 12) + (max 0 ((Builtin.Int.intBits t19 : Int) - (Builtin.Int.intBits (t18.natAbs : Int) : Int)))) (p_atan_two_real_in t19 t18 t34)).bind fun (t38, t39) =>
some (t38, t39)))
| some (t24, t25) => (if (decide (0 < t18)) = true then (
some (t24, t25)) else (
(p_negative t24 t25).bind fun (t41, t42) =>
some (t41, t42)))) else (
(p_sign_of widem widee).bind fun t44 =>
if (decide (0 < t44)) = true then (
(gmul 2 precision).bind fun t46 =>
(p_decided precision ((t46 + 12) + (max 0 ((Builtin.Int.intBits t19 : Int) - (Builtin.Int.intBits (t18.natAbs : Int) : Int)))) (p_atan_two_real_in t19 t18 0)).bind fun (t48, t49) =>
some (t48, t49)) else (
(p_sign_of highm highe).bind fun t51 =>
(gmul 2 precision).bind fun t53 =>
(p_decided precision ((t53 + 12) + (max 0 ((Builtin.Int.intBits t19 : Int) - (Builtin.Int.intBits (t18.natAbs : Int) : Int)))) (p_atan_two_real_in t19 t18 t51)).bind fun (t55, t56) =>
some (t55, t56)))) else (
(p_sign_of widem widee).bind fun t58 =>
if (decide (0 < t58)) = true then (
(gmul 2 precision).bind fun t60 =>
(p_decided precision ((t60 + 12) + (max 0 ((Builtin.Int.intBits t19 : Int) - (Builtin.Int.intBits (t18.natAbs : Int) : Int)))) (p_atan_two_real_in t19 t18 0)).bind fun (t62, t63) =>
some (t62, t63)) else (
(p_sign_of highm highe).bind fun t65 =>
(gmul 2 precision).bind fun t67 =>
(p_decided precision ((t67 + 12) + (max 0 ((Builtin.Int.intBits t19 : Int) - (Builtin.Int.intBits (t18.natAbs : Int) : Int)))) (p_atan_two_real_in t19 t18 t65)).bind fun (t69, t70) =>
some (t69, t70)))))
theorem t_atan_two_real : SpE 14 "atan_two_real" (dP dI (dP dR dR)) (fun a => p_atan_two_real a.1 a.2.1.1 a.2.1.2 a.2.2.1 a.2.2.2) mR := spC (m := 3) 78 (·.f78) [e_ratio_of_reals, e_max, e_decided, e_sign_of, e_slight_arc, e_more_of, e_quarter_of, e_Real, e_half_turn, e_abs, e_arc_bounds, e_often, e_negative] rR_s (by kernel_rfl) (by kernel_rfl) (fun _ => rfl) (by kernel_rfl)
noncomputable def e_atan_two_real : En := enD (·.f78.call) t_atan_two_real
noncomputable def p_law_is_at_most (onem : Int) (onee : Int) (otherm : Int) (othere : Int) : Option (Bool) :=
(p_compare_reals onem onee otherm othere).bind fun t2 =>
some ((decide (t2 ≤ 0)))
theorem t_law_is_at_most : SpE 7 "_law_is_at_most" (dP dR dR) (fun a => p_law_is_at_most a.1.1 a.1.2 a.2.1 a.2.2) mB := spE (m := 2) 81 (·.f81) [e_compare_reals] rB_s (by kernel_rfl) (by kernel_rfl) (fun _ => rfl) (by kernel_rfl)
noncomputable def e_law_is_at_most : En := enD (·.f81.call) t_law_is_at_most
noncomputable def p_law_are_angles (bits : Int) (xm : Int) (xe : Int) (by_ : Int) : Option (Bool) :=
(p_atan_two_real bits xm xe 1 by_).bind fun (t2, t3) =>
(p_divide_reals bits xm xe 1 by_).bind fun (t5, t6) =>
(p_atan_real bits t5 t6).bind fun (t8, t9) =>
(p_same_real t2 t3 t8 t9).bind fun t11 =>
if (!t11) = true then (
some (false)) else (
(p_negative xm xe).bind fun (t13, t14) =>
(p_atan_two_real bits t13 t14 1 by_).bind fun (t16, t17) =>
(p_negative t2 t3).bind fun (t19, t20) =>
(p_same_real t16 t17 t19 t20).bind fun t22 =>
some (t22))
theorem t_law_are_angles : SpE 15 "_law_are_angles" (dP dI (dP dR dI)) (fun a => p_law_are_angles a.1 a.2.1.1 a.2.1.2 a.2.2) mB := spE (m := 3) 85 (·.f85) [e_Real, e_atan_two_real, e_same_real, e_negative, e_atan_real, e_divide_reals] rB_s (by kernel_rfl) (by kernel_rfl) (fun _ => rfl) (by kernel_rfl)
end Mine
end
section
namespace Mine
section
variable {C : Cx} {F : Fc C} {fz : Bool} {ρ : List V}
theorem ev_E {T : Tb V} (O : TbOk F fz T) {e : Expr} {v : V} (h : evE T ρ 40 e some = some v) {Q : V → Prop} (q : Q v) : EJ F fz ρ e Q := ((snd O 40).E _ _ _ h).imp fun x hx => by rw [Option.some.inj hx]; exact q
theorem ev_T {T : Tb Bool} (O : TbOk F fz T) {t : Expr} {b : Bool} (h : evT T ρ 40 t some = some b) {Q : Bool → Prop} (q : Q b) : TJ F fz ρ t Q := fun s w fi R E k => (snd O 40).TT _ _ _ h s w fi R E fun c s' w' hc => k c s' w' (by rw [Option.some.inj hc]; exact q)
theorem ev_L {T : Tb (List V)} (O : TbOk F fz T) {p : Pos} {es : List Expr} {vs : List V} (h : evL T ρ 40 es some = some vs) {Q : List V → Prop} (q : Q vs) : LJ F fz ρ p es Q := fun s w fi R E k => (snd O 40).L p _ _ _ h s w fi R E fun c xs s' w' hc => k c xs s' w' (by rw [Option.some.inj hc]; exact q)
noncomputable def Tn (α : Type) (ns : List (Str × NameKind)) (fs : List (Str × Sem' α)) : Tb α := ⟨ns, [], fs, fun _ => none, fun _ _ _ _ => none, fun _ _ _ _ _ => none, 0⟩
noncomputable def plainN (q : Str × NameKind) : Bool := match q.2 with | .free => false | .cell => false | _ => true
theorem tn_ok (H : C.All) {α : Type} {ns : List (Str × NameKind)} {fs : List (Str × Sem' α)} (hN : F.env.scope.names = ns) (hp : ns.all plainN = true) (hf : ∀ q ∈ fs, CallOk F q.1 q.2) : TbOk F fz (Tn α ns fs) :=
  ⟨H.G, H.RO, hN, fun x hx => by
    have key : ∀ k, ns.lookup x = some k → plainN (x, k) = true := fun k h => List.all_eq_true.mp hp _ (mem_of_lookup h)
    rcases hx with h | h
    · exact absurd (key _ h) Bool.false_ne_true
    · exact absurd (key _ h) Bool.false_ne_true, fun _ h => (nomatch h), hf, fun _ _ h => nope h, fun _ _ _ _ _ _ _ h => nope h⟩
theorem ej_eq_nil {l lp pos} {Q : V → Prop} (h : EJ F fz ρ l (fun v => v = .lst [])) (q : Q (.bool true)) : EJ F fz ρ (.Compare l [.Eq] [.List [] lp] pos) Q := fun s w fi R E k =>
  wpAny_Compare1 (h s w fi _ E fun a x s₁ w₁ h₁ x₁ ok₁ ra => by
    subst h₁
    obtain ⟨a, items, rfl, hl, hr⟩ := ra
    obtain rfl : items = [] := hr
    refine ej_list (F := F) (Q := fun v => v = .lst []) (lj_nil ⟨Nat.zero_le _, rfl⟩) s₁ w₁ (fi.ext x₁ ok₁) _ E fun b y s₂ w₂ h₂ x₂ ok₂ rb => ?_
    subst h₂
    obtain ⟨b, items, rfl, hl₂, hr₂⟩ := rb
    obtain rfl : items = [] := hr₂
    exact SeqAt.eq_listAt (e := fun _ => true) (LstV.of ok₂ (hl.mono x₂.vle)) (LstV.of ok₂ hl₂) rfl (by have := F.room.units; omega) (fun j h1 => absurd h1 (Nat.not_lt_zero _)) (k _ _ _ w₂ q (x₁.trans x₂) ok₂ rfl)) rfl
theorem filterMap_none {vs : List V} : vs.filterMap (fun _ : V => (none : Option V)) = [] := by induction vs with | nil => rfl | cons a r ih => rw [List.filterMap_cons]; exact ih
end
noncomputable def rNeg {α : Type} (f : Int → Int → Option (Int × Int)) (m e : Int) (K : V → Option α) : Option α := (p_negative m e).bind fun t => (f t.1 t.2).bind fun u => (f m e).bind fun w => (p_negative w.1 w.2).bind fun n => K (.tup [.real u.1 u.2, .real n.1 n.2])
noncomputable def rCos {α : Type} (f : Int → Int → Option (Int × Int)) (m e : Int) (K : V → Option α) : Option α := (p_negative m e).bind fun t => (f t.1 t.2).bind fun u => (f m e).bind fun w => K (.tup [.real u.1 u.2, .real w.1 w.2])
noncomputable def RowS (v : V) : Prop := ∃ a b : Int × Int, v = .tup [.real a.1 a.2, .real b.1 b.2] ∧ p_same_real a.1 a.2 b.1 b.2 = some true
noncomputable abbrev fsO {α : Type} : List (Str × Sem' α) := fsE α [e_sin_real, e_negative, e_cos_real, e_tan_real, e_atan_real, e_asin_real, e_same_real]
theorem fsO_ok {C : Cx} (H : C.All) {F : Fc C} {α : Type} (hn : F.n = 14) : ∀ q ∈ fsO (α := α), CallOk F q.1 q.2 :=
  fsE_ok H (by kernel_rfl) F hn
theorem spec_law_is_odd {C : Cx} (H : C.All) {bits xm xe sm se : Int} {v1 v2 v3 v4 v5 : V} (h1 : ∀ {α : Type} (K : V → Option α), rNeg (p_sin_real bits) xm xe K = K v1) (h2 : ∀ {α : Type} (K : V → Option α), rCos (p_cos_real bits) xm xe K = K v2)
    (h3 : ∀ {α : Type} (K : V → Option α), rNeg (p_tan_real bits) xm xe K = K v3) (h4 : ∀ {α : Type} (K : V → Option α), rNeg (p_atan_real bits) xm xe K = K v4) (h5 : ∀ {α : Type} (K : V → Option α), rNeg (p_asin_real bits) sm se K = K v5)
    (hs : ∀ v ∈ [v1, v2, v3, v4, v5], RowS v) : Spec C 15 "_law_is_odd" [V.int bits, V.real xm xe, V.real sm se] (fun v => v = .bool true) := by
  refine spec_fn H.G 82 H.f82 14 7 (by kernel_rfl) rfl (hb_of (by kernel_rfl)) rfl rfl rfl fun F hn hN hcl hq => ?_
  have O : ∀ α, TbOk F false (Tn α _ fsO) := fun α => tn_ok H hN (by kernel_rfl) (fsO_ok H hn)
  refine s1_list_start 3 (n3 hN) rfl ?_
  refine ev_L (O _) (Eq.trans (b := rNeg (p_sin_real bits) xm xe fun v => rCos (p_cos_real bits) xm xe fun u => some [v, u]) (by kernel_rfl) (by rw [h1, h2])) ⟨Nat.le_of_ble_eq_true rfl, fun a => ?_⟩
  refine sx_cons (x1_append 3 (n3 hN) rfl (Nat.le_of_ble_eq_true rfl) (interactive_no F) rfl rfl rfl ?_)
  refine ev_E (O _) (Eq.trans (b := rNeg (p_tan_real bits) xm xe some) (by kernel_rfl) (h3 _)) ?_
  refine sx_cons (x1_append 3 (n3 hN) rfl (Nat.le_of_ble_eq_true rfl) (interactive_no F) rfl rfl rfl ?_)
  refine ev_E (O _) (Eq.trans (b := rNeg (p_atan_real bits) xm xe some) (by kernel_rfl) (h4 _)) ?_
  refine sx_cons (x1_append 3 (n3 hN) rfl (Nat.le_of_ble_eq_true rfl) (interactive_no F) rfl rfl rfl ?_)
  refine ev_E (O _) (Eq.trans (b := rNeg (p_asin_real bits) sm se some) (by kernel_rfl) (h5 _)) ?_
  refine sx_reveal 3 (n3 hN) rfl (sj_cons (s1_ret (ej_eq_nil (ej_listcomp H.G (compOk_of (by decide)) (fun _ => rfl) (ej_local 3 (n3 hN) rfl (by nofun) ?_)) rfl)))
  refine ⟨Nat.le_of_ble_eq_true rfl, fun _ => none, fun F' hn' hs' v hv => ?_, congrArg V.lst filterMap_none⟩
  obtain ⟨a, b, rfl, hab⟩ := hs v hv
  have hN' := congrArg Scope.names hs'
  refine ⟨[1, 2], .cons (n1 hN') (.inl rfl) (.cons (n2 hN') (.inl rfl) .nil), rfl, ?_⟩
  show TJ F' false _ _ _
  exact ev_T (tn_ok H hN' (by kernel_rfl) (fsO_ok H (hn'.trans hn))) (Eq.trans (b := (p_same_real a.1 a.2 b.1 b.2).bind fun c => some (!c)) (by kernel_rfl) (by rw [hab]; rfl)) (if_ff rfl)
noncomputable def RowOk (m e m' e' due : Int) : Prop := ∃ c p, p_compare_reals m e m' e' = some c ∧ gmul c due = some p ∧ decide (p < 0) = false ∧ (decide (due = 0) = true → p_same_real m e m' e' = some true)
noncomputable def RowO (v : V) : Prop := ∃ (a b : Int × Int) (due : Int), v = .tup [.real a.1 a.2, .real b.1 b.2, .int due] ∧ RowOk a.1 a.2 b.1 b.2 due
noncomputable def rOrd {α : Type} (f : Int → Int → Option (Int × Int)) (m e m' e' due : Int) (K : V → Option α) : Option α := (f m e).bind fun u => (f m' e').bind fun w => K (.tup [.real u.1 u.2, .real w.1 w.2, .int due])
noncomputable def RdK (f : Int → Int → Option (Int × Int)) (m e m' e' due : Int) : Prop := ∃ v, RowO v ∧ ∀ {α : Type} (K : V → Option α), rOrd f m e m' e' due K = K v
theorem rdK {f : Int → Int → Option (Int × Int)} {m e m' e' due a c a' c' : Int} (h : f m e = some (a, c)) (h' : f m' e' = some (a', c')) (r : RowOk a c a' c' due) : RdK f m e m' e' due := ⟨_, ⟨(a, c), (a', c'), due, rfl, r⟩, fun K => by unfold rOrd; rw [h, h']; rfl⟩
noncomputable abbrev fsR {α : Type} : List (Str × Sem' α) := fsE α [e_compare_reals, e_exp_real, e_atan_real, e_asin_real, e_acos_real, e_log_real, e_same_real]
theorem fsR_ok {C : Cx} (H : C.All) {F : Fc C} {α : Type} (hn : F.n = 14) : ∀ q ∈ fsR (α := α), CallOk F q.1 q.2 :=
  fsE_ok H (by kernel_rfl) F hn
noncomputable def tRow (m e m' e' due : Int) : Option Bool := (p_compare_reals m e m' e').bind fun c => (gmul c due).bind fun p => if decide (p < 0) = true then some true else if decide (due = 0) = true then (p_same_real m e m' e').bind fun s => if (!s) = true then some true else some false else some false
theorem tRow_s {m e m' e' due : Int} (h : RowOk m e m' e' due) : tRow m e m' e' due = some false := by
  obtain ⟨c, p, h1, h2, h3, h4⟩ := h
  unfold tRow
  rw [h1, Option.bind_some, h2, Option.bind_some, h3, if_neg Bool.false_ne_true]
  cases h5 : decide (due = 0) with
  | false => rfl
  | true => rw [if_pos rfl, h4 h5]; rfl
theorem spec_law_are_ordered {C : Cx} (H : C.All) {bits xm xe ym ye sm se lm le way turn : Int} (hw : p_compare_reals xm xe ym ye = some way) (ht : p_compare_reals sm se lm le = some turn)
    (h1 : RdK (p_exp_real bits) xm xe ym ye way) (h2 : RdK (p_atan_real bits) xm xe ym ye way) (h3 : RdK (p_asin_real bits) sm se lm le turn) (h4 : RdK (p_acos_real bits) lm le sm se turn) (hl : 0 < xm → 0 < ym → RdK (p_log_real bits) xm xe ym ye way) :
    Spec C 15 "_law_are_ordered" [V.int bits, V.real xm xe, V.real ym ye, V.real sm se, V.real lm le] (fun v => v = .bool true) := by
  obtain ⟨v1, w1, h1⟩ := h1
  obtain ⟨v2, w2, h2⟩ := h2
  obtain ⟨v3, w3, h3⟩ := h3
  obtain ⟨v4, w4, h4⟩ := h4
  refine spec_fn H.G 83 H.f83 14 9 (by kernel_rfl) rfl (hb_of (by kernel_rfl)) rfl rfl rfl fun F hn hN hcl hq => ?_
  have O : ∀ α, TbOk F false (Tn α _ fsR) := fun α => tn_ok H hN (by kernel_rfl) (fsR_ok H hn)
  refine sj_cons (s1_tup2 5 6 (n5 hN) (.inl rfl) (n6 hN) (.inl rfl) (by decide) rfl rfl (ev_E (O _) (Eq.trans (b := (p_compare_reals xm xe ym ye).bind fun a => (p_compare_reals sm se lm le).bind fun b => some (.tup [.int a, .int b])) (by kernel_rfl) (by rw [hw, Option.bind_some, ht, Option.bind_some])) (tup_q rfl ?_)))
  refine s1_list_start 7 (n7 hN) rfl ?_
  refine ev_L (O _) (Eq.trans (b := rOrd (p_exp_real bits) xm xe ym ye way fun v => rOrd (p_atan_real bits) xm xe ym ye way fun u => some [v, u]) (by kernel_rfl) (by rw [h1, h2])) ⟨Nat.le_of_ble_eq_true rfl, fun a => ?_⟩
  refine sx_cons (x1_append 7 (n7 hN) rfl (Nat.le_of_ble_eq_true rfl) (interactive_no F) rfl rfl rfl ?_)
  refine ev_E (O _) (Eq.trans (b := rOrd (p_asin_real bits) sm se lm le turn some) (by kernel_rfl) (h3 _)) ?_
  refine sx_cons (x1_append 7 (n7 hN) rfl (Nat.le_of_ble_eq_true rfl) (interactive_no F) rfl rfl rfl ?_)
  refine ev_E (O _) (Eq.trans (b := rOrd (p_acos_real bits) lm le sm se turn some) (by kernel_rfl) (h4 _)) ?_
  refine sx_cons (x1_if (lb_stable _ _) (ev_T (O _) (b := decide (0 < xm) && decide (0 < ym)) (Eq.trans (b := if decide (0 < xm) = true then if decide (0 < ym) = true then some true else some false else some false) (by kernel_rfl) (by cases decide (0 < xm) <;> cases decide (0 < ym) <;> rfl)) ?_))
  refine (fun (fin : ∀ vs : List V, (∀ v ∈ vs, RowO v) → vs.length ≤ 1000 → SX F ?r (LB F a vs) ?s (fun _ _ => False) (fun v => v = .bool true)) => ?main) ?fin
  case main =>
    have hs : ∀ v ∈ [v1, v2, v3, v4], RowO v := fs1 w1 (fs1 w2 (fs1 w3 (fs1 w4 fs0)))
    by_cases hx : 0 < xm ∧ 0 < ym
    · obtain ⟨v5, w5, h5⟩ := hl hx.1 hx.2
      rw [decide_eq_true hx.1, decide_eq_true hx.2]
      refine if_tt ?_
      refine sx_cons (x1_append 7 (n7 hN) rfl (Nat.le_of_ble_eq_true rfl) (interactive_no F) rfl rfl rfl ?_)
      refine ev_E (O _) (Eq.trans (b := rOrd (p_log_real bits) xm xe ym ye way some) (by kernel_rfl) (h5 _)) (sx_nil ?_)
      exact fin _ (fs1 w1 (fs1 w2 (fs1 w3 (fs1 w4 (fs1 w5 fs0))))) (Nat.le_of_ble_eq_true rfl)
    · rw [show (decide (0 < xm) && decide (0 < ym)) = false by rw [← Bool.decide_and]; exact decide_eq_false hx]
      refine if_ff (sx_nil ?_)
      exact fin _ hs (Nat.le_of_ble_eq_true rfl)
  case fin =>
    intro vs hs hl1
    refine sx_reveal 7 (n7 hN) rfl (sj_cons (s1_ret (ej_eq_nil (ej_listcomp H.G (compOk_of (by decide)) (fun _ => rfl) (ej_local 7 (n7 hN) rfl (by nofun) ?_)) rfl)))
    refine ⟨hl1, fun _ => none, fun F' hn' hs' v hv => ?_, congrArg V.lst filterMap_none⟩
    obtain ⟨a, b, due, rfl, hab⟩ := hs v hv
    have hN' := congrArg Scope.names hs'
    refine ⟨[1, 2, 3], .cons (n1 hN') (.inl rfl) (.cons (n2 hN') (.inl rfl) (.cons (n3 hN') (.inl rfl) .nil)), rfl, ?_⟩
    show TJ F' false _ _ _
    exact ev_T (tn_ok H hN' (by kernel_rfl) (fsR_ok H (hn'.trans hn))) (Eq.trans (b := tRow a.1 a.2 b.1 b.2 due) (by kernel_rfl) (tRow_s hab)) (if_ff rfl)
theorem cutP {A B : Prop} (fin : A) (main : A → B) : B := main fin
theorem ifb {c : Bool} {A B : Prop} (h1 : c = true → A) (h2 : c = false → B) : if c = true then A else B := by
  cases c
  · rw [if_neg Bool.false_ne_true]; exact h2 rfl
  · rw [if_pos rfl]; exact h1 rfl
noncomputable def bNeg (xm a c : Int) : Option Bool := if decide (xm < 0) = true then (p_law_is_at_most a c 1 0).bind fun b => if (!b) = true then some true else some false else some false
noncomputable def bMid (xm a c : Int) : Option Bool := if decide (0 ≤ xm) = true then (p_law_is_at_most 1 0 a c).bind fun b => if (!b) = true then some true else bNeg xm a c else bNeg xm a c
theorem bMid_s {xm a c : Int} (h1 : 0 ≤ xm → p_law_is_at_most 1 0 a c = some true) (h2 : xm < 0 → p_law_is_at_most a c 1 0 = some true) : bMid xm a c = some false := by
  unfold bMid bNeg
  by_cases h : 0 ≤ xm
  · rw [decide_eq_true h, if_pos rfl, h1 h, decide_eq_false (Int.not_lt.mpr h)]; rfl
  · rw [decide_eq_false h, if_neg Bool.false_ne_true, decide_eq_true (Int.not_le.mp h), if_pos rfl, h2 (Int.not_le.mp h)]; rfl
noncomputable def bIn (v : Int × Int) : Option Bool := (p_law_is_at_most v.1 v.2 1 0).bind fun a => if (!a) = true then some true else (p_law_is_at_most (-1) 0 v.1 v.2).bind fun b => if (!b) = true then some true else some false
theorem bIn_s {v : Int × Int} (h1 : p_law_is_at_most v.1 v.2 1 0 = some true) (h2 : p_law_is_at_most (-1) 0 v.1 v.2 = some true) : bIn v = some false := by
  unfold bIn; rw [h1, h2]; rfl
noncomputable abbrev fsB {α : Type} : List (Str × Sem' α) := fsE α [e_Real, e_exp_real, e_law_is_at_most, e_add_reals, e_sin_real, e_cos_real, e_log_real, e_subtract_reals, e_atan_real, e_asin_real, e_tan_real]
theorem fsB_ok {C : Cx} (H : C.All) {F : Fc C} {α : Type} (hn : F.n = 14) : ∀ q ∈ fsB (α := α), CallOk F q.1 q.2 :=
  fsE_ok H (by kernel_rfl) F hn
theorem spec_law_are_bound {C : Cx} (H : C.All) {bits xm xe sm se : Int} {x d s c a t : Int × Int} (p1 : p_exp_real bits xm xe = some x) (n1 : decide (x.1 ≤ 0) = false) (r1 : p_add_reals bits xm xe 1 0 = some d) (i1 : p_law_is_at_most d.1 d.2 x.1 x.2 = some true)
    (u1 : 0 ≤ xm → p_law_is_at_most 1 0 x.1 x.2 = some true) (u2 : xm < 0 → p_law_is_at_most x.1 x.2 1 0 = some true) (p2 : p_sin_real bits xm xe = some s) (i2 : bIn s = some false) (p3 : p_cos_real bits xm xe = some c) (i3 : bIn c = some false)
    (hl : 0 < xm → ∃ l w u : Int × Int, p_log_real bits xm xe = some l ∧ p_subtract_reals bits xm xe 1 0 = some w ∧ p_law_is_at_most l.1 l.2 w.1 w.2 = some true ∧ p_law_is_at_most s.1 s.2 xm xe = some true ∧ p_atan_real bits xm xe = some u ∧ p_law_is_at_most u.1 u.2 xm xe = some true)
    (p4 : p_asin_real bits sm se = some a) (p5 : p_tan_real bits sm se = some t) (z1 : sm < 0 → p_law_is_at_most a.1 a.2 sm se = some true ∧ p_law_is_at_most t.1 t.2 sm se = some true) (z2 : 0 ≤ sm → p_law_is_at_most sm se a.1 a.2 = some true ∧ p_law_is_at_most sm se t.1 t.2 = some true) :
    Spec C 15 "_law_are_bound" [V.int bits, V.real xm xe, V.real sm se] (fun v => v = .bool true) := by
  refine spec_fn H.G 84 H.f84 14 14 (by kernel_rfl) rfl (hb_of (by kernel_rfl)) rfl rfl rfl fun F hn hN hcl hq => ?_
  have O : ∀ α, TbOk F false (Tn α _ fsB) := fun α => tn_ok H hN (by kernel_rfl) (fsB_ok H hn)
  refine sj_cons (s1_tup2 3 4 (n3 hN) (.inl rfl) (n4 hN) (.inl rfl) (by decide) rfl rfl (ev_E (O _) (Eq.trans (b := (p_exp_real bits xm xe).bind fun x => some (.tup [.real 1 0, .real x.1 x.2])) (by kernel_rfl) (by rw [p1, Option.bind_some])) (tup_q rfl ?_)))
  refine sj_cons (s1_if (ev_T (O _) (Eq.trans (b := if decide (x.1 ≤ 0) = true then some true else (p_add_reals bits xm xe 1 0).bind fun d => (p_law_is_at_most d.1 d.2 x.1 x.2).bind fun b => if (!b) = true then some true else some false) (by kernel_rfl) (by rw [n1, if_neg Bool.false_ne_true, r1, Option.bind_some, i1]; rfl)) (if_ff (sj_nil ?_))))
  refine sj_cons (s1_if (ev_T (O _) (Eq.trans (b := bMid xm x.1 x.2) (by kernel_rfl) (bMid_s u1 u2)) (if_ff (sj_nil ?_))))
  refine sj_of_sx (sx_cons (x1_for stable_true offIt_true (fun _ => rfl) (ev_E (O _) (Eq.trans (b := (p_sin_real bits xm xe).bind fun s => (p_cos_real bits xm xe).bind fun c => some (.tup [.real s.1 s.2, .real c.1 c.2])) (by kernel_rfl) (by rw [p2, Option.bind_some, p3, Option.bind_some])) ?_)))
  refine ⟨true, _, fun _ ρ => ∃ v : V, ρ = [V.int bits, V.real xm xe, V.real sm se, V.real 1 0, V.real x.1 x.2, v, .undef, .undef, .undef, .undef, .undef, .undef, .undef, .undef, .undef, .undef, .undef], rfl, ⟨_, rfl⟩, fun i hi ρ' hK => ?_, fun ρ' hK => ?_⟩
  · obtain ⟨v, rfl⟩ := hK
    refine ⟨5, _, n5 hN, .inl rfl, ?_⟩
    match i, hi with
    | 0, _ => exact ev_T (O _) (Eq.trans (b := bIn s) (by kernel_rfl) i2) ⟨rfl, _, rfl⟩
    | 1, _ => exact ev_T (O _) (Eq.trans (b := bIn c) (by kernel_rfl) i3) ⟨rfl, _, rfl⟩
  obtain ⟨v, rfl⟩ := hK
  refine sx_of_sj (sj_cons (s1_if (ev_T (O _) (b := decide (0 < xm)) (by kernel_rfl) ?_)))
  refine' cutP ?fin fun fin => ?main
  case main =>
    refine ifb (fun h => ?_) fun h => sj_nil fin
    obtain ⟨l, w, u, q1, q2, q3, q4, q5, q6⟩ := hl (of_decide_eq_true h)
    refine sj_cons (s1_if (ev_T (O _) (Eq.trans (b := (p_log_real bits xm xe).bind fun l => (p_subtract_reals bits xm xe 1 0).bind fun w => (p_law_is_at_most l.1 l.2 w.1 w.2).bind fun b => some (!b)) (by kernel_rfl) (by rw [q1, Option.bind_some, q2, Option.bind_some, q3]; rfl)) (if_ff (sj_nil ?_))))
    refine sj_cons (s1_if (ev_T (O _) (Eq.trans (b := (p_sin_real bits xm xe).bind fun s => (p_law_is_at_most s.1 s.2 xm xe).bind fun a => if (!a) = true then some true else (p_atan_real bits xm xe).bind fun u => (p_law_is_at_most u.1 u.2 xm xe).bind fun b => if (!b) = true then some true else some false) (by kernel_rfl) (by rw [p2, Option.bind_some, q4, q5, Option.bind_some]; show (p_law_is_at_most u.1 u.2 xm xe).bind _ = _; rw [q6]; rfl)) (if_ff (sj_nil (sj_nil fin)))))
  case fin =>
    refine sj_cons (s1_if (ev_T (O _) (b := decide (sm < 0)) (by kernel_rfl) (ifb (fun h => ?_) fun h => sj_nil ?_)))
    · obtain ⟨y1, y2⟩ := z1 (of_decide_eq_true h)
      exact sj_cons (s1_ret (ev_E (O _) (Eq.trans (b := (p_asin_real bits sm se).bind fun a => (p_law_is_at_most a.1 a.2 sm se).bind fun b => if b = true then (p_tan_real bits sm se).bind fun t => (p_law_is_at_most t.1 t.2 sm se).bind fun b => some (.bool b) else some (.bool false)) (by kernel_rfl) (by rw [p4, Option.bind_some, y1, Option.bind_some, if_pos rfl, p5, Option.bind_some, y2, Option.bind_some])) rfl))
    · obtain ⟨y1, y2⟩ := z2 (Int.not_lt.mp (of_decide_eq_false h))
      exact sj_cons (s1_ret (ev_E (O _) (Eq.trans (b := (p_asin_real bits sm se).bind fun a => (p_law_is_at_most sm se a.1 a.2).bind fun b => if b = true then (p_tan_real bits sm se).bind fun t => (p_law_is_at_most sm se t.1 t.2).bind fun b => some (.bool b) else some (.bool false)) (by kernel_rfl) (by rw [p4, Option.bind_some, y1, Option.bind_some, if_pos rfl, p5, Option.bind_some, y2, Option.bind_some])) rfl))
end Mine
end
section
namespace Mine
section
variable {C : Cx}
theorem enter_def (G : C.Good) {g qual : Str} {a : Addr} {params : Arguments} {body : List Stmt} {scope : Scope} {dV kV doc pm cdv ct oc : Value} {an od : Option Addr} {osl : Array (Option Value)} {n : Nat} {ps : List Str} {vs : List V}
    (ho : C.K.lookup a = some ⟨oc, od, .func (fnOf g qual params body scope dV kV doc pm an cdv ct), osl⟩) (hcd : codeIn C.K cdv qual = true)
    (hS : ScopeOk scope ps) (hlen : ps.length = vs.length)
    (hb : ∀ xs : List Value, xs.length = vs.length → bindArgs (fnOf g qual params body scope dV kV doc pm an cdv ct) ⟨xs, []⟩ = pure (ps.zip xs))
    {A : Around} {s : Shared} {w : View} {xs : List Value} {Q E : Value → Shared → Prop} (r : Room A (n + 1)) (ok : Ok C w s) (rv : Reps C w vs xs)
    (hbody : ∀ (F : Fc C) (s₁ : Shared), F.n = n → F.env.scope = scope → F.s₀ = s → F.w₀ = w → FI F false (start0 (scope.names.length - vs.length) vs) s₁ w →
      ∀ (R : Flow → Shared → Prop) (E' : Value → Shared → Prop), (∀ s', Q .none s' → R .next s') → (∀ x s', Q x s' → R (.ret x) s') → wpAny (model C.prog C.wd) F.A (execs body F.env) R E' s₁) : wpAny (model C.prog C.wd) A (call (.ref a) xs) Q E s := by
  have X := ok.K G
  have hnl : s.heap.NoLimit := G.T.nolimit.keeps ok.heap₀
  have hxs := rv.length
  have hpn := ps_nodup hS
  have hmap : (ps.zip xs).map (·.1) = ps := by rw [← List.unzip_fst, List.unzip_zip (by rw [hxs, hlen])]
  have hk2 : ((ps.zip xs).all fun y => scope.names.lookup y.1 == some NameKind.local || scope.names.lookup y.1 == some NameKind.cell) = true := by
    rw [List.all_eq_true]
    intro y hy
    have : y.1 ∈ ps := (List.of_mem_zip hy).1
    rcases hS.kinds _ this with q | q <;> simp [q]
  refine wpAny_call (codeAny_call_cells (fd := fnOf g qual params body scope dV kV doc pm an cdv ct) (body := body) (binds := ps.zip xs) (by have := r.depth; omega) (X _ _ ho) rfl hnl (codeRec_of X hcd) rfl (hb xs hxs) rfl (kindsX hk2 _) (fun s₁ hc => ?_) hS.co hS.gen hS.kind)
  let fd := fnOf g qual params body scope dV kV doc pm an cdv ct
  let L := s.heap.objs.size
  let env := callEnvC fd L a
  have hnone : s.heap.get? L = none := Heap.get?_none_of_le (Nat.le_refl _)
  let F : Fc C := { A := A.deeper env, env := env, s₀ := s, w₀ := w, n := n, room := r.deeper env, kind := hS.kind, glob := rfl, bltn := rfl, nodup := hS.nodup, nodbg := hS.nodbg }
  have okF : Ok C w s₁ := by
    obtain ⟨h', tk, e⟩ := hc.toInCall.same
    have hkp := hc.toInCall.keep
    subst e
    exact ok.keep hkp
  have fi : FI F false (start0 (scope.names.length - vs.length) vs) s₁ w := by
    refine ⟨hc.toInCall.same, fun b o _ e => hc.toInCall.keep b o e, fun _ _ e => e, fun _ _ _ _ _ => rfl, okF, hnone, ok.none_size, ⟨_, hc.toInCall.ns, fun i x v hn hv hu => ?_⟩, fun i x kk c v hn hkk hcl hv hu => ?_, fun x c hx hcl => ?_, fun x y c h1 h2 => ?_⟩
    · have hv' := start0_get hv hu
      obtain ⟨z, hz, rz⟩ := rv.get hv'
      have hi : i < ps.length := by rw [hlen]; exact (List.getElem?_eq_some_iff.mp hv').1
      obtain ⟨k', hk'⟩ := hS.first i _ (List.getElem?_eq_getElem hi)
      have hxe : ps[i] = x := by have := hk'.symm.trans hn; exact (Prod.mk.inj (Option.some.inj this)).1
      refine ⟨z, bindL_get _ _ (by rw [hmap]; exact hpn) ?_ (F.kindOf hn), rz⟩
      refine List.mem_of_getElem? (i := i) ?_
      rw [List.getElem?_zip_eq_some]
      exact ⟨by rw [List.getElem?_eq_getElem hi, hxe], hz⟩
    · have hv' := start0_get hv hu
      obtain ⟨z, hz, rz⟩ := rv.get hv'
      have hi : i < ps.length := by rw [hlen]; exact (List.getElem?_eq_some_iff.mp hv').1
      obtain ⟨k', hk'⟩ := hS.first i _ (List.getElem?_eq_getElem hi)
      have hxe : ps[i] = x := by have := hk'.symm.trans hn; exact (Prod.mk.inj (Option.some.inj this)).1
      refine ⟨z, ?_, rz⟩
      have hcell := hc.cell x c hcl
      rwa [bindC_get (v := z) _ _ (by rw [hmap]; exact hpn) ?_ (by rw [show env.kindOf x = some kk from F.kindOf hn]; rcases hkk with rfl | rfl <;> intro q <;> cases q)] at hcell
      refine List.mem_of_getElem? (i := i) ?_
      rw [List.getElem?_zip_eq_some]
      exact ⟨by rw [List.getElem?_eq_getElem hi, hxe], hz⟩
    · have hab := hc.above x c (mem_of_lookup hcl)
      have hcn : s.heap.get? c = none := Heap.get?_none_of_le (Nat.le_of_lt hab)
      refine ⟨hcn, ⟨_, hc.cell x c hcl⟩, fun _ => ?_, fun q => by cases q⟩
      cases q : w c with
      | none => rfl
      | some o => rw [ok.vin _ _ q] at hcn; cases hcn
    · exact name_of_addr hc.apart (mem_of_lookup h1) (mem_of_lookup h2)
  exact hbody F s₁ rfl rfl rfl rfl fi _ _ (fun s' h => h) fun x s' h => h
noncomputable def Fc.bare (F : Fc C) (s : Shared) : Fc C := { F with s₀ := { s with heap := {} } }
theorem get_empty (a : Addr) : ({} : Heap).get? a = none := by
  show (match (#[] : Array Obj)[a]? with | some ⟨_, _, .freed, _⟩ => none | o => o) = none
  simp
theorem FI.bare {F : Fc C} {ρ : List V} {s : Shared} {w : View} (fi : FI F false ρ s w) : FI (F.bare s) false ρ s w := by
  have e0 : ∀ b, (F.bare s).s₀.heap.get? b = none := fun b => get_empty b
  refine ⟨⟨s.heap, s.toks, rfl⟩, ?_, fi.vle, ?_, fi.ok, get_empty _, fi.hidL, fi.ns, fi.cells, ?_, fi.apart⟩
  · intro b o _ e; rw [e0 b] at e; exact nomatch e
  · intro b o _ e _; rw [e0 b] at e; exact nomatch e
  · intro x c a b
    obtain ⟨_, h2, h3⟩ := fi.ownC x c a b
    exact ⟨get_empty c, h2, h3⟩
theorem Aside.bare {F F' : Fc C} {s₀ s : Shared} {w : View} {a : Addr} {o : Obj} (x : Aside C F s w a o) : Aside C (F'.bare s₀) s w a o := ⟨x.get, x.code, x.cell, x.dict, x.hid, get_empty _, x.nt⟩
structure WellAt (F : Fc C) (a b : Addr) (its : Array Value) (n : Nat) (o : Obj) (v : Int) (t : Tok) (m : Nat) (s : Shared) (w : View) : Prop where
  inner : Aside C F s w b (lobj its n)
  allI : ∀ y ∈ its.toList, ∃ i t, y = .int i t
  size : its.size ≤ 1000
  outer : Aside C F s w a o
  ocls : o.cls = .type "list"
  odat : o.data = .seq #[.ref b, .int v t] m
  lo : 0 ≤ v
  hi : v < 65537
  ne : a ≠ b
noncomputable def Well (F : Fc C) (a b : Addr) : Inv := fun s w => ∃ its n o v t m, WellAt F a b its n o v t m s w
theorem WellAt.ext {F : Fc C} {a b its n o v t m s w s' w'} (x : WellAt F a b its n o v t m s w) (e : Ext C w s w' s') : WellAt F a b its n o v t m s' w' :=
  ⟨x.inner.ext e, x.allI, x.size, x.outer.ext e, x.ocls, x.odat, x.lo, x.hi, x.ne⟩
theorem WellAt.keepD {F : Fc C} {a b its n o v t m s w s'} (x : WellAt F a b its n o v t m s w) (k : KeepD s s') : WellAt F a b its n o v t m s' w :=
  ⟨k.aside x.inner, x.allI, x.size, k.aside x.outer, x.ocls, x.odat, x.lo, x.hi, x.ne⟩
theorem well_stable (F : Fc C) (a b : Addr) : Stable C (Well F a b) :=
  ⟨fun s w s' w' ⟨its, n, o, v, t, m, x⟩ e => ⟨its, n, o, v, t, m, x.ext e⟩, fun s s' w ⟨its, n, o, v, t, m, x⟩ k => ⟨its, n, o, v, t, m, x.keepD k⟩⟩
theorem WellAt.outerL {F : Fc C} {a b its n o v t m s w} (x : WellAt F a b its n o v t m s w) : s.heap.IsList a #[.ref b, .int v t] := ⟨o, x.outer.get, x.ocls, m, x.odat⟩
theorem WellAt.innerL {F : Fc C} {a b its n o v t m s w} (x : WellAt F a b its n o v t m s w) : s.heap.IsList b its := ⟨_, x.inner.get, rfl, n, rfl⟩
theorem pop_first {A : Around} {E : Value → Shared → Prop} {s : Shared} {D : Addr} {its : Array Value} {n : Nat} {y : Value} {u : Tok} {Q : Value → Shared → Prop} (ho : s.heap.get? D = some (lobj its n)) (hy : its[0]? = some y) (hsz : its.size ≤ sizeLine)
    (h : ∀ h' n', Heap.SameBut D s.heap h' → h'.get? D = some (lobj (its.eraseIdxIfInBounds 0) n') → Q y { s with heap := h' }) : wpAny (model C.prog C.wd) A (call (.builtin "list.pop") [.ref D, .int 0 u]) Q E s := by
  have h0 : 0 < its.size := (Array.getElem?_eq_some_iff.mp hy).1
  have hk : seqIndex? (0 : Int) its.size = some 0 := by
    unfold seqIndex?
    simp [h0]
  refine call_meets PySem.F.slot_list_pop ⟨_, ho, rfl⟩ PySem.F.entry_list_pop (PySem.F.args_list_pop_2 _ _) (PySem.MeetsSeq.list_pop_at D _ n 0 u 0 y (by decide) hk hy hsz) ⟨ho, h _ (if (its.eraseIdxIfInBounds 0).size == its.size then n else n + 1) (Heap.SameBut.update ..) ?_⟩
  rw [Heap.get?_update_self _ ho (by rfl)]
  rfl
end
end Mine
end
section
namespace Mine
section
variable {C : Cx}
noncomputable def DJ (F : Fc C) (ρ : List V) (J : Inv) (e : Expr) (Q : V → Prop) : Prop :=
  ∀ s w, FI F false ρ s w → J s w → ∀ (R E : Value → Shared → Prop),
    (∀ v x s' w', Q v → FI F false ρ s' w' → VLe w w' → J s' w' → Rep C w' v x → R x s') → wpAny (model C.prog C.wd) F.A (eval e F.env) R E s
noncomputable def DLJ (F : Fc C) (ρ : List V) (J : Inv) (pos : Pos) (es : List Expr) (Q : List V → Prop) : Prop :=
  ∀ s w, FI F false ρ s w → J s w → ∀ (R : List Value → Shared → Prop) (E : Value → Shared → Prop),
    (∀ vs xs s' w', Q vs → FI F false ρ s' w' → VLe w w' → J s' w' → Reps C w' vs xs → R xs s') → wpAny (model C.prog C.wd) F.A (spliced (backTo pos (starEach es F.env))) R E s
noncomputable def StabX (C : Cx) (J : Inv) : Prop := ∀ s w s' w', J s w → Ext C w s w' s' → Ok C w' s' → J s' w'
theorem VLe.refl (w : View) : VLe w w := fun _ _ e => e
theorem VLe.trans {w w' w'' : View} (x : VLe w w') (y : VLe w' w'') : VLe w w'' := fun b o e => y b o (x b o e)
section
variable {F : Fc C} {ρ : List V} {J : Inv}
theorem dj_ej {e Q} (hJ : StabX C J) (h : EJ F false ρ e Q) : DJ F ρ J e Q := fun s w fi j R E k =>
  h s w fi R E fun v x s' w' q x₁ ok₁ rv => k v x s' w' q (fi.ext x₁ ok₁) x₁.vle (hJ _ _ _ _ j x₁ ok₁) rv
theorem dj_bin {op l r pos} {Q : V → Prop} (hJ : StabX C J) (h : DJ F ρ J l fun a => DJ F ρ J r fun b => BinQ Q op a b) : DJ F ρ J (.BinOp l op r pos) Q := fun s w fi j R E k =>
  wpAny_BinOp (h s w fi j _ E fun a x s₁ w₁ h₁ fi₁ v₁ j₁ ra => h₁ s₁ w₁ fi₁ j₁ _ E fun b y s₂ w₂ h₂ fi₂ v₂ j₂ rb =>
    wp_bin fi₂.ok (ra.mono v₂) rb h₂ fun v z s₃ w₃ q x₃ ok₃ rz => k v z s₃ w₃ q (fi₂.ext x₃ ok₃) (v₁.trans (v₂.trans x₃.vle)) (hJ _ _ _ _ j₂ x₃ ok₃) rz)
theorem dlj_nil {pos} {Q : List V → Prop} (h : Q []) : DLJ F ρ J pos [] Q := fun s w fi j R E k => wpAny_items_nil (k _ _ _ w h fi (VLe.refl w) j rfl)
theorem dlj_cons {pos e es} {Q : List V → Prop} (h : DJ F ρ J e fun v => DLJ F ρ J pos es fun vs => Q (v :: vs))
    (he : starEach (e :: es) F.env = (false, eval e F.env) :: starEach es F.env) : DLJ F ρ J pos (e :: es) Q := fun s w fi j R E k =>
  wpAny_items_cons (h s w fi j _ E fun v x s₁ w₁ h₁ fi₁ v₁ j₁ rv => h₁ s₁ w₁ fi₁ j₁ _ E fun vs xs s₂ w₂ h₂ fi₂ v₂ j₂ rvs =>
    k _ _ _ w₂ h₂ fi₂ (v₁.trans v₂) j₂ ⟨_, _, rfl, rv.mono v₂, rvs⟩) he
theorem dj_call (G : C.Good) (hJ : StabX C J) (i : Nat) {g p pos e es} {Q : V → Prop} (hn : F.env.scope.names[i]? = some (g, NameKind.globalImplicit))
    (he : starEach (e :: es) F.env = (false, eval e F.env) :: starEach es F.env) (hp : (backTo pos (starEach es F.env)).any (·.1) = false) (hg : GCall C g)
    (h : DLJ F ρ J pos (e :: es) fun vs => Spec C F.n g vs Q) : DJ F ρ J (.Call (.Name g p) (e :: es) [] pos) Q := fun s w fi j R E k => by
  obtain ⟨a, e1, e2⟩ := hg
  refine wpAny_Call_Name_kw (load_glob G fi hn e1 ?_)
  refine wp_args he hp (keeps_K e2) (h s w fi j _ E fun vs xs s₁ w₁ h₁ fi₁ v₁ j₁ rv => ⟨fi₁.ok.K G, ?_⟩)
  obtain ⟨a', e1', _, hc⟩ := h₁
  rw [e1] at e1'; cases e1'
  exact hc F.A s₁ w₁ xs R E F.room fi₁.ok rv fun v x w₂ s₂ q x₂ ok₂ rz => k v x s₂ w₂ q (fi₁.ext x₂ ok₂) (v₁.trans x₂.vle) (hJ _ _ _ _ j₁ x₂ ok₂) rz
end
theorem well_stabX (F : Fc C) (a b : Addr) : StabX C (Well F a b) := fun s w s' w' y e ok => (well_stable F a b).ext _ _ _ _ y e
noncomputable def KeptAt (F : Fc C) (ρ : List V) (a b : Addr) (its : Array Value) (n : Nat) (o : Obj) (v : Int) (t : Tok) (m : Nat) : Inv := fun s w => FI F false ρ s w ∧ WellAt F a b its n o v t m s w
theorem keptAt_stab (F : Fc C) (ρ : List V) (a b : Addr) (its n o v t m) : StabX C (KeptAt F ρ a b its n o v t m) := fun s w s' w' ⟨x, y⟩ e ok => ⟨x.ext e ok, y.ext e⟩
section
variable {F F' : Fc C} {ρ ρ' : List V} {a b : Addr} {its : Array Value} {n : Nat} {o : Obj} {v₀ : Int} {t₀ : Tok} {m : Nat}
theorem dj_well0 {x p k p2 pos} (hn : F'.env.scope.names[0]? = some (x, NameKind.local)) (hρ : ρ'[0]? = some (.ref a)) : DJ F' ρ' (KeptAt F ρ a b its n o v₀ t₀ m) (.Subscript (.Name x p) (.Constant (.int 0) k p2) pos) (fun v => v = .ref b) := fun s w fi j R E kk =>
  Subscript_ (ej_local (F := F') (Q := fun v => v = .ref a) 0 hn hρ (by nofun) rfl s w fi _ E fun v y s₁ w₁ hv x₁ ok₁ ry => by
    subst hv
    obtain rfl : y = .ref a := ry
    refine wpAny_Constant_int ?_
    have x₂ : Ext C w s w₁ { s₁ with toks := s₁.toks + 1 } := x₁.trans (Ext.toks w₁ s₁ _)
    have ok₂ : Ok C w₁ { s₁ with toks := s₁.toks + 1 } := ok₁.toks _
    have j₂ := keptAt_stab F ρ a b its n o v₀ t₀ m _ _ _ _ j x₂ ok₂
    have W := j₂.2
    exact item_list (s := { s₁ with toks := s₁.toks + 1 }) W.outerL (by decide) (by decide) (x := .ref b) rfl (kk _ _ _ w₁ rfl (fi.ext x₂ ok₂) x₂.vle j₂ rfl))
theorem dj_well1 {x p k p2 pos} (hn : F'.env.scope.names[0]? = some (x, NameKind.local)) (hρ : ρ'[0]? = some (.ref a)) : DJ F' ρ' (KeptAt F ρ a b its n o v₀ t₀ m) (.Subscript (.Name x p) (.Constant (.int 1) k p2) pos) (fun v => v = .int v₀) := fun s w fi j R E kk =>
  Subscript_ (ej_local (F := F') (Q := fun v => v = .ref a) 0 hn hρ (by nofun) rfl s w fi _ E fun v y s₁ w₁ hv x₁ ok₁ ry => by
    subst hv
    obtain rfl : y = .ref a := ry
    refine wpAny_Constant_int ?_
    have x₂ : Ext C w s w₁ { s₁ with toks := s₁.toks + 1 } := x₁.trans (Ext.toks w₁ s₁ _)
    have ok₂ : Ok C w₁ { s₁ with toks := s₁.toks + 1 } := ok₁.toks _
    have j₂ := keptAt_stab F ρ a b its n o v₀ t₀ m _ _ _ _ j x₂ ok₂
    have W := j₂.2
    exact item_list (s := { s₁ with toks := s₁.toks + 1 }) W.outerL (by decide) (by decide) (x := .int v₀ t₀) rfl (kk (.int v₀) _ _ w₁ rfl (fi.ext x₂ ok₂) x₂.vle j₂ ⟨t₀, rfl⟩))
theorem sm_small {i : Int} (h0 : 0 ≤ i) (h1 : i < 2 ^ 100) : Sm i := by
  unfold Sm
  have : i.natAbs < 2 ^ 100 := by omega
  exact Nat.lt_of_lt_of_le this (Nat.pow_le_pow_right (by decide) (by decide))
theorem drawn_call (H : C.All) {many : Int} (hm : 0 < many) {s : Shared} {w : View} (fi : FI F false ρ s w) (W : Well F a b s w) {A : Around} {k : Nat} (hr : Room A (k + 1)) {t : Tok} {R E : Value → Shared → Prop} {f : Addr} (hf : nsIn C.K mainGlobals "_law_drawn" = some (some (.ref f)))
    (kk : ∀ r t s' w', 0 ≤ r → r < many → FI F false ρ s' w' → VLe w w' → Well F a b s' w' → R (.int r t) s') : wpAny (model C.prog C.wd) A (call (.ref f) [.ref a, .int many t]) R E s := by
  obtain ⟨f', oc, od, doc, pm, an, cdv, ct, osl, h1, h2, h3, h4⟩ := H.f80.ex
  rw [hf] at h1; cases h1
  refine enter_def H.G (n := 0) (vs := [.ref a, .int many]) h3 h4 (scopeOk_of (show checkScope (defAt 80).2.2 (psAt 80) = true by kernel_rfl)) rfl ((hb_of (a := (defAt 80).1) (m := 2) (by kernel_rfl)) _ rfl rfl rfl) (hr.le (by omega)) fi.ok ⟨_, _, rfl, rfl, _, _, rfl, ⟨t, rfl⟩, rfl⟩ fun F₁ s₁ hn₁ hsc hs₀ hw₀ fi₁ R' E' _ hret => ?_
  have hN : F₁.env.scope.names = [(Str.ofString "well", NameKind.local), (Str.ofString "many", NameKind.local)] := by rw [hsc]; rfl
  have x₁ : Ext C w s w s₁ := by have := fi₁.toExt; rwa [hs₀, hw₀] at this
  have fic₁ : FI F false ρ s₁ w := fi.ext x₁ fi₁.ok
  obtain ⟨its, n, o, v₀, t₀, m, W₁⟩ := (well_stable F a b).ext _ _ _ _ W x₁
  have j₁ : KeptAt F ρ a b its n o v₀ t₀ m s₁ w := ⟨fic₁, W₁⟩
  have fb₁ : FI (F₁.bare s₁) false [.ref a, .int many] s₁ w := fi₁.bare
  generalize hB : F₁.bare s₁ = B at fb₁
  have hA : F₁.A = B.A := by rw [← hB]; rfl
  have hE : F₁.env = B.env := by rw [← hB]; rfl
  have hNB : B.env.scope.names = [(Str.ofString "well", NameKind.local), (Str.ofString "many", NameKind.local)] := by rw [← hE]; exact hN
  have asB : ∀ {s' w' c o'}, Aside C F s' w' c o' → Aside C B s' w' c o' := fun x => by rw [← hB]; exact x.bare
  rw [hA, hE]
  have stab := keptAt_stab F ρ a b its n o v₀ t₀ m
  have lo := W₁.lo
  have hi := W₁.hi
  refine wpAny_execs_cons (wpAny_If (wpAny_isTrue_Compare1 ?_ rfl))
  refine dj_well0 (n0 hNB) rfl s₁ w fb₁ j₁ _ _ fun v y s₂ w₂ hv fb₂ vl₂ j₂ ry => ?_
  subst hv
  obtain rfl : y = .ref b := ry
  refine ej_list (F := B) (Q := fun v => v = .lst []) (lj_nil ⟨Nat.zero_le _, rfl⟩) s₂ w₂ fb₂ _ _ fun v y s₃ w₃ hv x₃ ok₃ ry => ?_
  subst hv
  obtain ⟨l, items, rfl, hl, hr⟩ := ry
  obtain rfl : items = [] := hr
  have fb₃ := fb₂.ext x₃ ok₃
  have j₃ := stab _ _ _ _ j₂ x₃ ok₃
  have vl₃ := VLe.trans vl₂ x₃.vle
  have Wa := j₃.2
  rcases Nat.eq_zero_or_pos its.size with hz | hz
  · have hi0 : its = #[] := Array.eq_empty_of_size_eq_zero hz
    subst hi0
    refine SeqAt.RcNeAt.lists (e := fun _ => true) Wa.innerL (LstV.of ok₃ hl) rfl (by have := B.room.units; omega) (fun j h1 => absurd h1 (Nat.not_lt_zero _)) _ _ _ _ ?_
    refine wpAny_truthy_bool ?_
    rw [show (!(List.range (#[] : Array Value).size).all fun _ => true) = false from rfl]
    refine wpAny_execs_nil ?_
    refine wpAny_execs_cons (wpAny_Assign_Subscript ?_ rfl)
    have hval : DJ B [.ref a, .int many] (KeptAt F ρ a b #[] n o v₀ t₀ m) (.BinOp (.BinOp (.BinOp (.Subscript (.Name "well" ⟨358, 15, 358, 19⟩) (.Constant (.int 1) 0 ⟨358, 20, 358, 21⟩) ⟨358, 15, 358, 22⟩) .Mult (.Constant (.int 75) 0 ⟨358, 25, 358, 27⟩) ⟨358, 15, 358, 27⟩) .Add (.Constant (.int 74) 0 ⟨358, 30, 358, 32⟩) ⟨358, 15, 358, 32⟩) .Mod (.Constant (.int 65537) 0 ⟨358, 36, 358, 41⟩) ⟨358, 14, 358, 41⟩) (fun v => ∃ i, v = .int i ∧ 0 ≤ i ∧ i < 65537) := by
      refine dj_bin stab (dj_bin stab (dj_bin stab ?_))
      intro s w fi j R E k
      refine dj_well1 (n0 hNB) rfl s w fi j R E fun v x s' w' hv => k v x s' w' ?_
      subst hv
      refine dj_ej stab (ej_int (bq_mul (sm_small lo (by omega)) (sm_small (by decide) (by decide)) ?_))
      refine dj_ej stab (ej_int (bq_add ?_))
      exact dj_ej stab (ej_int (bq_mod (by decide) ⟨_, rfl, Int.fmod_nonneg_of_pos _ (by decide), Int.fmod_lt_of_pos _ (by decide)⟩))
    refine hval s₃ w₃ fb₃ j₃ _ _ fun v y s₄ w₄ hv fb₄ vl₄ j₄ ry => ?_
    obtain ⟨i, rfl, hi0, hi1⟩ := hv
    obtain ⟨ti, rfl⟩ := ry
    refine ej_local (F := B) (Q := fun v => v = .ref a) 0 (n0 hNB) rfl (by nofun) rfl s₄ w₄ fb₄ _ _ fun v y s₅ w₅ hv x₅ ok₅ ry => ?_
    subst hv
    obtain rfl : y = .ref a := ry
    refine wpAny_Constant_int ?_
    have x₆ : Ext C w₄ s₄ w₅ { s₅ with toks := s₅.toks + 1 } := x₅.trans (Ext.toks w₅ s₅ _)
    have ok₆ : Ok C w₅ { s₅ with toks := s₅.toks + 1 } := ok₅.toks _
    have fb₆ := fb₄.ext x₆ ok₆
    have j₆ := stab _ _ _ _ j₄ x₆ ok₆
    have Wa := j₆.2
    refine wpAny_setItem_list Wa.outerL (by decide) (by decide) (show (1 : Int) < 2 by decide) fun h' hL hsb => ?_
    have k' : ∀ c y, c ≠ a → ({ s₅ with toks := s₅.toks + 1 } : Shared).heap.get? c = some y → h'.get? c = some y := fun c y hc e => (hsb.2 c hc).trans e
    obtain ⟨o', g', c', m', d'⟩ := hL
    have fb₇ : FI B false [.ref a, .int many] { s₅ with heap := h', toks := s₅.toks + 1 } w₅ := fb₆.aside (tk := s₅.toks + 1) (asB Wa.outer) k'
    have fc₇ : FI F false ρ { s₅ with heap := h', toks := s₅.toks + 1 } w₅ := j₆.1.aside (tk := s₅.toks + 1) Wa.outer k'
    have W₇ : WellAt F a b #[] n o' i ti m' { s₅ with heap := h', toks := s₅.toks + 1 } w₅ := ⟨Wa.inner.other (tk := s₅.toks + 1) (Ne.symm Wa.ne) k', Wa.allI, Wa.size,
      ⟨g', (fun vs' y t q => by rw [d'] at q; cases q), (fun v q => by rw [d'] at q; cases q), (fun es ep q => by rw [d'] at q; cases q), Wa.outer.hid, Wa.outer.new, Wa.outer.nt⟩, c', d', hi0, hi1, Wa.ne⟩
    have j₇ : KeptAt F ρ a b #[] n o' i ti m' { s₅ with heap := h', toks := s₅.toks + 1 } w₅ := ⟨fc₇, W₇⟩
    have stab' := keptAt_stab F ρ a b #[] n o' i ti m'
    have hval2 : DJ B [.ref a, .int many] (KeptAt F ρ a b #[] n o' i ti m') (.BinOp (.BinOp (.Subscript (.Name "well" ⟨359, 11, 359, 15⟩) (.Constant (.int 1) 0 ⟨359, 16, 359, 17⟩) ⟨359, 11, 359, 18⟩) .FloorDiv (.Constant (.int 7) 0 ⟨359, 22, 359, 23⟩) ⟨359, 11, 359, 23⟩) .Mod (.Name "many" ⟨359, 26, 359, 30⟩) ⟨359, 11, 359, 30⟩) (fun v => ∃ i, v = .int i ∧ 0 ≤ i ∧ i < many) := by
      refine dj_bin stab' (dj_bin stab' ?_)
      intro s w fi j R E k
      refine dj_well1 (n0 hNB) rfl s w fi j R E fun v x s' w' hv => k v x s' w' ?_
      subst hv
      refine dj_ej stab' (ej_int (bq_div (by decide) (sm_small (by decide) (by decide)) ?_))
      exact dj_ej stab' (ej_local 1 (n1 hNB) rfl (by nofun) (bq_mod (by omega) ⟨_, rfl, Int.fmod_nonneg_of_pos _ hm, Int.fmod_lt_of_pos _ hm⟩))
    refine wpAny_execs_cons (wpAny_Return_some ?_)
    refine hval2 _ w₅ fb₇ j₇ _ _ fun v y s₈ w₈ hv fb₈ vl₈ j₈ ry => ?_
    obtain ⟨r, rfl, hr0, hr1⟩ := hv
    obtain ⟨tr, rfl⟩ := ry
    exact hret _ _ (kk r tr s₈ w₈ hr0 hr1 j₈.1 (VLe.trans vl₃ (VLe.trans vl₄ (VLe.trans x₆.vle vl₈))) ⟨_, _, _, _, _, _, j₈.2⟩)
  · have hsz : (its.size != ([] : List Value).toArray.size) = true := bne_iff_ne.mpr (show its.size ≠ 0 by omega)
    refine SeqAt.RcNeAt.lists_lengths Wa.innerL (LstV.of ok₃ hl) hsz (by have := B.room.units; omega) _ _ _ _ ?_
    refine wpAny_truthy_bool ?_
    refine wpAny_execs_cons (wpAny_Return_some (wpAny_BinOp ?_))
    refine MethodCall_ ?_
    refine dj_well0 (n0 hNB) rfl s₃ w₃ fb₃ j₃ _ _ fun v y s₄ w₄ hv fb₄ vl₄ j₄ ry => ?_
    subst hv
    obtain rfl : y = .ref b := ry
    have Wa := j₄.2
    refine getMethod_builtin ⟨_, Wa.inner.get, rfl⟩ PySem.F.plainAttrs_list PySem.F.slot_list_pop PySem.F.type_list_pop (fun a e => by cases e; exact ⟨_, Wa.inner.get, rfl⟩) ?_
    refine callWith_method1 ?_
    have hl : LJ B false [.ref a, .int many] ⟨357, 15, 357, 29⟩ [.Constant (.int 0) 0 ⟨357, 27, 357, 28⟩] fun us => us = [.int 0] := lj_cons (ej_int (lj_nil rfl)) rfl
    refine hl s₄ w₄ fb₄ _ _ fun us xs s₅ w₅ hu x₅ ok₅ rus => ?_
    subst hu
    obtain ⟨z, zs, rfl, ⟨tz, rfl⟩, hz'⟩ := rus
    obtain rfl : zs = [] := hz'
    have fb₅ := fb₄.ext x₅ ok₅
    have j₅ := stab _ _ _ _ j₄ x₅ ok₅
    have Wa := j₅.2
    obtain ⟨i, ti, hy⟩ := Wa.allI its[0] (Array.getElem_mem_toList hz)
    refine pop_first (its := its) (n := n) (y := its[0]) Wa.inner.get (Array.getElem?_eq_getElem hz) (by have := Wa.size; rw [sizeLine_eq]; omega) fun h' n' hsb hg => ?_
    rw [hy]
    have k' : ∀ c y, c ≠ b → s₅.heap.get? c = some y → h'.get? c = some y := fun c y hc e => (hsb.2 c hc).trans e
    have fb₇ : FI B false [.ref a, .int many] { s₅ with heap := h' } w₅ := fb₅.aside (tk := s₅.toks) (asB Wa.inner) k'
    have fc₇ : FI F false ρ { s₅ with heap := h' } w₅ := j₅.1.aside (tk := s₅.toks) Wa.inner k'
    have W₇ : WellAt F a b (its.eraseIdxIfInBounds 0) n' o v₀ t₀ m { s₅ with heap := h' } w₅ := ⟨lobj_aside hg Wa.inner.hid Wa.inner.new Wa.inner.nt, fun y hy => Wa.allI y (by
        have : (its.eraseIdxIfInBounds 0).toList = its.toList.eraseIdx 0 := by simp
        rw [this] at hy
        exact List.mem_of_mem_eraseIdx hy), Nat.le_trans (by
        have : (its.eraseIdxIfInBounds 0).toList = its.toList.eraseIdx 0 := by simp
        rw [← Array.length_toList, this, List.length_eraseIdx]
        split <;> simp) Wa.size, Wa.outer.other (tk := s₅.toks) Wa.ne k', Wa.ocls, Wa.odat, Wa.lo, Wa.hi, Wa.ne⟩
    refine ej_local (F := B) (Q := fun v => v = .int many) 1 (n1 hNB) rfl (by nofun) rfl _ w₅ fb₇ _ _ fun v y s₈ w₈ hv x₈ ok₈ ry => ?_
    subst hv
    obtain ⟨tm, rfl⟩ := ry
    refine mod_int' (by omega) ?_
    have x₉ : Ext C w₅ { s₅ with heap := h' } w₈ { s₈ with toks := s₈.toks + 1 } := x₈.trans (Ext.toks w₈ s₈ _)
    have ok₉ : Ok C w₈ { s₈ with toks := s₈.toks + 1 } := ok₈.toks _
    exact hret _ _ (kk _ _ _ w₈ (Int.fmod_nonneg_of_pos _ hm) (Int.fmod_lt_of_pos _ hm) (fc₇.ext x₉ ok₉) (VLe.trans vl₃ (VLe.trans vl₄ (VLe.trans x₅.vle x₉.vle))) ⟨_, _, _, _, _, _, W₇.ext x₉⟩)
end
end
end Mine
end
section
namespace Mine
section
variable {C : Cx} {F : Fc C} {fz : Bool} {ρ : List V}
theorem hb_len : bootBuiltins (Str.ofString "len") = some (.builtin "len") := by kernel_rfl
theorem bc_len {vs : List V} {Q : V → Prop} (hl : vs.length ≤ 1000) (h : Q (.int (vs.length : Int))) : BCall C "len" [.lst vs] Q := fun A s w xs R E hh ok rv k => by
  obtain ⟨x, ys, rfl, ⟨a, items, rfl, hL, hr⟩, rfl⟩ := rv
  have e : ((items.toArray.size : Nat) : Int) = (vs.length : Int) := by rw [List.size_toArray, hr.length]
  refine Calls.call_len_list (LstV.of ok hL) (by rw [e]; omega) ?_
  rw [e]
  exact k _ _ w _ h (Ext.toks ..) (ok.toks _) ⟨_, rfl⟩
theorem ints_reps {w : View} : ∀ {xs : List Value}, (∀ y ∈ xs, ∃ i t, y = .int i t) → ∃ l : List Int, Reps C w (l.map V.int) xs ∧ l.length = xs.length
  | [], _ => ⟨[], rfl, rfl⟩
  | x :: r, h => by
    obtain ⟨i, t, rfl⟩ := h x (List.mem_cons_self ..)
    obtain ⟨l, h1, h2⟩ := ints_reps (w := w) (xs := r) fun y hy => h y (List.mem_cons_of_mem _ hy)
    exact ⟨i :: l, ⟨_, _, rfl, ⟨t, rfl⟩, h1⟩, by simp [h2]⟩
theorem reps_ints {w : View} : ∀ {l : List Int} {xs : List Value}, Reps C w (l.map V.int) xs → ∀ y ∈ xs, ∃ i t, y = .int i t
  | [], _, h, y, hy => by rw [show _ = [] from h] at hy; cases hy
  | i :: r, _, h, y, hy => by
    obtain ⟨x, ys, rfl, ⟨t, rfl⟩, h2⟩ := h
    rcases List.mem_cons.mp hy with rfl | hy
    · exact ⟨i, t, rfl⟩
    · exact reps_ints h2 y hy
theorem ej_slice_to {x p kd pp sp pos} {l : List Int} (i : Nat) {Q : V → Prop} (hn : F.env.scope.names[i]? = some (x, NameKind.local)) (hρ : ρ[i]? = some (.lst (l.map V.int))) (hl : l.length ≤ 1000)
    (h : ∀ l' : List Int, l'.length ≤ 1000 → Q (.lst (l'.map V.int))) : EJ F fz ρ (.Subscript (.Name x p) (.Slice none (some (.Constant (.int 12) kd pp)) none sp) pos) Q := fun s w fi R E k => by
  refine wpAny_Subscript_Slice (T := "list") slot_list_getitem.lookup ?_
  refine ej_local (F := F) (Q := fun v => v = .lst (l.map V.int)) i hn hρ (by nofun) rfl s w fi _ E fun v y s₁ w₁ hv x₁ ok₁ ry => ?_
  subst hv
  obtain ⟨a, items, rfl, hL, hr⟩ := ry
  refine wpAny_Slice ?_
  refine wpAny_pure (wpAny_Constant_int (k := kd) (pos := pp) (wpAny_pure ?_))
  have x₂ : Ext C w s w₁ { s₁ with toks := s₁.toks + 1 } := x₁.trans (Ext.toks w₁ s₁ _)
  have ok₂ : Ok C w₁ { s₁ with toks := s₁.toks + 1 } := ok₁.toks _
  generalize hs₂ : ({ s₁ with toks := s₁.toks + 1 } : Shared) = s₂ at x₂ ok₂
  let so : Obj := { cls := .type "slice", data := .fields #[.none, .int 12 s₁.toks, .none] }
  have keep : ∀ b o, s₂.heap.get? b = some o → (s₂.heap.push so).get? b = some o := fun b o e => Heap.get?_push_of_some _ e
  have x₃ : Ext C w₁ s₂ w₁ { s₂ with heap := s₂.heap.push so } := Ext.of_keep (tk := s₂.toks) keep
  have ok₃ : Ok C w₁ { s₂ with heap := s₂.heap.push so } := ok₂.keep (tk := s₂.toks) keep
  have hlen : items.toArray.size ≤ 1000 := by rw [List.size_toArray, hr.length, List.length_map]; exact hl
  have hall : ∀ y ∈ (slicePick items.toArray none (some 12) none).toList, ∃ i t, y = .int i t := fun y hy => by
    unfold slicePick at hy
    rw [List.mem_filterMap] at hy
    obtain ⟨j, _, hj⟩ := hy
    rw [List.getElem?_toArray] at hj
    exact reps_ints hr y (List.mem_of_getElem? hj)
  have hL3 : ({ s₂ with heap := s₂.heap.push so } : Shared).heap.IsList a items.toArray := LstV.of ok₃ hL
  obtain ⟨l', hr', hl'⟩ := ints_reps (C := C) (w := put w₁ (s₂.heap.push so).objs.size (lobj (slicePick items.toArray none (some 12) none) 0)) hall
  refine ⟨hL3.typeIs, wpAny_getItem_list_slice hL3 (by rw [← hs₂]; exact Heap.IsSliceOf.new ..) .none (.int 12 _) .none (by simp) ?_ (by rw [sizeLine_eq]; omega)⟩
  refine k (.lst (l'.map V.int)) _ _ _ (h l' ?_) (x₂.trans (x₃.trans (Ext.alloc ok₃ (lobj (slicePick items.toArray none (some 12) none) 0) s₂.toks))) (ok₃.alloc (o := lobj (slicePick items.toArray none (some 12) none) 0) rfl s₂.toks) ⟨_, _, rfl, ⟨_, put_self .., rfl, 0, by simp [lobj]⟩, hr'⟩
  rw [hl', Array.length_toList]
  exact Nat.le_trans (slicePick_size_le _ _ _ _) hlen
noncomputable def absOf : V → Option V
  | .int i => some (.int (i.natAbs : Int))
  | _ => none
theorem absOf_list : ∀ l : List Int, (l.map V.int).filterMap absOf = (l.map fun i => (i.natAbs : Int)).map V.int
  | [] => rfl
  | i :: r => by
    show List.filterMap absOf (V.int i :: r.map V.int) = _
    rw [List.filterMap_cons, show absOf (V.int i) = some (.int (i.natAbs : Int)) from rfl]
    dsimp only
    rw [absOf_list r]; rfl
theorem fresh_in {s : Shared} {w : View} (fi : FI F fz ρ s w) {D : Addr} (h : s.heap.get? D = none) (hn : NT C D) : F.s₀.heap.get? D = none := by
  cases q : F.s₀.heap.get? D with
  | none => rfl
  | some o => have := fi.keep _ _ hn q; rw [h] at this; cases this
theorem wp_well (H : C.All) {l : List Int} {pos} (hN0 : F.env.scope.names[0]? = some (Str.ofString "script", NameKind.local)) (hN12 : F.env.scope.names[12]? = some (Str.ofString "len", NameKind.globalImplicit)) (hl : l.length ≤ 63)
    (hρ : ρ[0]? = some (.lst (l.map V.int))) {scope : Scope} (hsc : scope = { kind := .function, names := [(Str.ofString ".0", .local), (Str.ofString "cell", .local), (Str.ofString "abs", .globalImplicit)], isGenerator := false, isCoroutine := false, more := [] })
    {p1 p2 p3 p4 p5 p6 p7 p8 p9 p10 p11 p12 p13 p14 : Pos} {s : Shared} {w : View} (fi : FI F false ρ s w) {R E : Value → Shared → Prop}
    (k : ∀ s' w' a b, FI F false ρ s' w' → VLe w w' → Well F a b s' w' → R (.ref a) s') :
    wpAny (model C.prog C.wd) F.A (eval (.List [.ListComp (.Call (.Name "abs" p1) [.Name "cell" p2] [] p3) [⟨.Name "cell" p4, .Subscript (.Name "script" p5) (.Slice none (some (.Constant (.int 12) 0 p6)) none p7) p8, [], 0⟩] scope p9,
      .BinOp (.Constant (.int 17) 0 p10) .Add (.Call (.Name "len" p11) [.Name "script" p12] [] p13) p14] pos) F.env) R E s := by
  have hll : (l.map V.int).length ≤ 1000 := by rw [List.length_map]; omega
  subst hsc
  refine wpAny_List (wpAny_items_cons ?_ rfl)
  refine wp_listcomp (Q := fun us => ∃ l' : List Int, us = l'.map V.int ∧ l'.length ≤ 1000) H.G (compOk_of (by decide)) (fun _ => rfl) ?_ fi ?_
  · refine ej_slice_to 0 hN0 hρ (by omega) fun l' hl' => ?_
    refine ⟨by rw [List.length_map]; exact hl', absOf, fun F' hn' hs' v hv => ?_, ⟨l'.map fun i => (i.natAbs : Int), absOf_list l', by rw [List.length_map]; exact hl'⟩⟩
    obtain ⟨i, _, rfl⟩ := List.mem_map.mp hv
    have hN' : F'.env.scope.names = [(Str.ofString ".0", .local), (Str.ofString "cell", .local), (Str.ofString "abs", .globalImplicit)] := by rw [hs']
    refine ⟨1, .local, n1 hN', .inl rfl, ?_⟩
    show EJ F' false _ _ _
    refine ej_bcall H.G 2 "abs" (n2 hN') hb_abs (by decide) H.b_abs rfl rfl ?_
    refine lj_cons ?_ rfl
    refine ej_local 1 (n1 hN') rfl (by nofun) ?_
    refine lj_nil ?_
    exact bc_abs rfl
  · intro us s₁ w₁ D outs n hus x₁ ok₁ gD hidD newD ntD hr
    obtain ⟨l', rfl, hl'⟩ := hus
    have fi₁ := fi.ext x₁ ok₁
    have as₁ : Aside C F s₁ w₁ D (lobj outs n) := lobj_aside gD hidD (fresh_in fi newD ntD) ntD
    have hLJ : LJ F false ρ pos [.BinOp (.Constant (.int 17) 0 p10) .Add (.Call (.Name "len" p11) [.Name "script" p12] [] p13) p14] fun us => us = [.int (17 + ((l.map V.int).length : Int))] := by
      refine lj_cons ?_ rfl
      refine ej_bin ?_
      refine ej_int ?_
      refine ej_bcall H.G 12 "len" hN12 hb_len (by decide) H.b_len rfl rfl ?_
      refine lj_cons ?_ rfl
      refine ej_local 0 hN0 hρ (by nofun) ?_
      refine lj_nil ?_
      refine bc_len hll ?_
      refine bq_add ?_
      exact lj_nil rfl
    refine hLJ s₁ w₁ fi₁ _ _ fun us xs s₂ w₂ hu x₂ ok₂ rus => ?_
    subst hu
    obtain ⟨z, zs, rfl, ⟨tz, rfl⟩, hz⟩ := rus
    obtain rfl : zs = [] := hz
    refine ⟨show 2 ≤ sizeLine by rw [sizeLine_eq]; decide, ?_⟩
    have fi₂ := fi₁.ext x₂ ok₂
    have as₂ := as₁.ext x₂
    let v₀ : Int := 17 + ((l.map V.int).length : Int)
    let o : Obj := lobj #[.ref D, .int v₀ tz] 0
    have keep : ∀ b y, s₂.heap.get? b = some y → (s₂.heap.push o).get? b = some y := fun b y e => Heap.get?_push_of_some _ e
    have x₃ : Ext C w₂ s₂ w₂ { s₂ with heap := s₂.heap.push o } := Ext.of_keep (tk := s₂.toks) keep
    have ok₃ : Ok C w₂ { s₂ with heap := s₂.heap.push o } := ok₂.keep (tk := s₂.toks) keep
    have none₂ : s₂.heap.get? s₂.heap.objs.size = none := Heap.get?_none_of_le (Nat.le_refl _)
    have hnt : NT C s₂.heap.objs.size := fun t ht q' => by
      obtain ⟨ps, e, _⟩ := ok₂.tabs t ht
      rw [← q', none₂] at e; cases e
    have asO : Aside C F { s₂ with heap := s₂.heap.push o } w₂ s₂.heap.objs.size o := lobj_aside (Heap.get?_push_size _ rfl) ok₂.none_size (fresh_in fi₂ none₂ hnt) hnt
    refine k _ w₂ s₂.heap.objs.size D (fi₂.ext x₃ ok₃) (VLe.trans x₁.vle x₂.vle) ⟨outs, n, o, v₀, tz, 0, as₂.ext x₃, reps_ints (hr.mono x₂.vle), ?_, asO, rfl, rfl, by omega, ?_, fun q => ?_⟩
    · have := hr.length
      rw [List.length_map] at this
      rw [← Array.length_toList]; omega
    · show 17 + ((l.map V.int).length : Int) < 65537
      rw [List.length_map]; omega
    · have := as₂.get
      rw [← q, none₂] at this; cases this
end
end Mine
end
section
set_option maxHeartbeats 4000000
namespace Mine
section
variable {C : Cx} {F : Fc C} {ρ : List V}
theorem well_off (F : Fc C) (a b : Addr) : OffIt F (Well F a b) := fun s w I o l i h' tk ⟨its, n, o', v, t, m, W⟩ as hd k => by
  have hIb : b ≠ I := fun q => by
    have := W.inner.get
    rw [q, as.get] at this; cases this; cases hd
  have hIa : a ≠ I := fun q => by
    have := W.outer.get
    rw [q, as.get] at this; cases this
    rw [W.odat] at hd; cases hd
  exact ⟨its, n, o', v, t, m, W.inner.other (tk := tk) hIb k, W.allI, W.size, W.outer.other (tk := tk) hIa k, W.ocls, W.odat, W.lo, W.hi, W.ne⟩
theorem dj_drawn (H : C.All) {a b : Addr} (i j : Nat) {x p p2 e pos n} {Q : V → Prop} (hi : F.env.scope.names[i]? = some (Str.ofString "_law_drawn", NameKind.globalImplicit)) (hj : F.env.scope.names[j]? = some (x, NameKind.local)) (hρ : ρ[j]? = some (.ref a))
    (hF : F.n = n + 1) (he : starEach [.Name x p2, e] F.env = (false, eval (.Name x p2) F.env) :: starEach [e] F.env) (he2 : starEach [e] F.env = (false, eval e F.env) :: starEach [] F.env) (hp : (backTo pos (starEach [e] F.env)).any (·.1) = false)
    (h : EJ F false ρ e fun v => ∃ many, v = .int many ∧ 0 < many ∧ ∀ r, 0 ≤ r → r < many → Q (.int r)) :
    DJ F ρ (Well F a b) (.Call (.Name "_law_drawn" p) [.Name x p2, e] [] pos) Q := fun s w fi jW R E k => by
  obtain ⟨f, e1, e2⟩ := H.f80.call
  refine wpAny_Call_Name_kw (load_glob H.G fi hi e1 ?_)
  have hLJ : LJ F false ρ pos [.Name x p2, e] fun us => ∃ many, us = [.ref a, .int many] ∧ 0 < many ∧ ∀ r, 0 ≤ r → r < many → Q (.int r) :=
    lj_cons (ej_local j hj hρ (by nofun) (lj_cons (h.imp fun v hv => by
      obtain ⟨many, rfl, h1, h2⟩ := hv
      exact lj_nil ⟨many, rfl, h1, h2⟩) he2)) he
  refine wp_args he hp (keeps_K e2) (hLJ s w fi _ E fun us xs s₁ w₁ hu x₁ ok₁ rv => ⟨ok₁.K H.G, ?_⟩)
  obtain ⟨many, rfl, hm, hQ⟩ := hu
  obtain ⟨y, ys, rfl, hy, z, zs, rfl, ⟨t, rfl⟩, hz⟩ := rv
  obtain rfl : y = .ref a := hy
  obtain rfl : zs = [] := hz
  have fi₁ := fi.ext x₁ ok₁
  have W₁ := (well_stable F a b).ext _ _ _ _ jW x₁
  refine drawn_call H hm fi₁ W₁ (k := n) (by have := F.room; rw [hF] at this; exact this) e1 fun r t' s' w' h0 h1 fi' vl W' => ?_
  exact k (.int r) _ s' w' (hQ r h0 h1) fi' (VLe.trans x₁.vle vl) W' ⟨_, rfl⟩
theorem x1_assign_dj (i : Nat) {J x p value pos N P} (hJ : Stable C J) (hn : F.env.scope.names[i]? = some (x, NameKind.local)) (hs : swapsWith value (some (.Name x p)) pos.line F.env = pure false)
    (h : DJ F ρ J value fun v => N J (ρ.set i v)) : X1 F ρ J (.Assign [.Name x p] value pos) N P := fun s w fi j R E kn kr =>
  wpAny_Assign_Name (h s w fi j _ E fun v y s₁ w₁ h₁ fi₁ vl j₁ rv => fi_store fi₁ i hn (.inl rfl) rv fun s' fi' kd => kn _ _ s' w₁ h₁ fi' (hJ.keep _ _ _ j₁ kd)) hs
theorem x1_ret_and3 {J x y z bp pos N} {P : V → Prop} (hJ : StabX C J) (hx : EJ F false ρ x fun v => v = .bool true) (hy : EJ F false ρ y fun v => v = .bool true) (hz : DJ F ρ J z P) : X1 F ρ J (.Return (some (.BoolOp .And [x, y, z] bp)) pos) N P := fun s w fi j R E kn kr => by
  refine wpAny_Return_some ?_
  show wpAny _ _ (do
    let v ← eval x F.env
    standAt bp
    let t ← holding [v] (truthy v)
    match BoolOp.And, t with
    | .And, false | .Or, true => pure v
    | _, _ => boolOp bp .And [eval y F.env, eval z F.env]) _ E s
  refine wpAny_bind (hx s w fi _ _ fun v u s₁ w₁ hv x₁ ok₁ rv => wpAny_bind (wpAny_standAt (wpAny_bind (wpAny_holding ?_))))
  subst hv
  obtain rfl : u = .bool true := rv
  refine wpAny_truthy_bool ?_
  show wpAny _ _ (do
    let v ← eval y F.env
    standAt bp
    let t ← holding [v] (truthy v)
    match BoolOp.And, t with
    | .And, false | .Or, true => pure v
    | _, _ => boolOp bp .And [eval z F.env]) _ E s₁
  have fi₁ := fi.ext x₁ ok₁
  refine wpAny_bind (hy s₁ w₁ fi₁ _ _ fun v u s₂ w₂ hv x₂ ok₂ rv => wpAny_bind (wpAny_standAt (wpAny_bind (wpAny_holding ?_))))
  subst hv
  obtain rfl : u = .bool true := rv
  refine wpAny_truthy_bool ?_
  have fi₂ := fi₁.ext x₂ ok₂
  exact hz s₂ w₂ fi₂ (hJ _ _ _ _ (hJ _ _ _ _ j x₁ ok₁) x₂ ok₂) _ _ fun v u s₃ w₃ hv fi₃ vl j₃ rv => kr v u _ _ s₃ w₃ hv fi₃ rv
theorem x1_tup2_wp (i j : Nat) {J x y p q n tp value pos N P} (hn : F.env.scope.names[i]? = some (x, NameKind.local)) (hn' : F.env.scope.names[j]? = some (y, NameKind.local)) (hij : i ≠ j)
    (hs : swapsWithSole [.Tuple [.Name x p, .Name y q] n tp] value pos.line F.env = pure false) (hc : constTup value = false)
    (h : ∀ s w, FI F false ρ s w → J s w → ∀ (R E : Value → Shared → Prop), (∀ v1 v2 u s' w' J', N J' ((ρ.set i v1).set j v2) → Stable C J' → FI F false ρ s' w' → J' s' w' → Rep C w' (.tup [v1, v2]) u → R u s') → wpAny (model C.prog C.wd) F.A (eval value F.env) R E s) :
    X1 F ρ J (.Assign [.Tuple [.Name x p, .Name y q] n tp] value pos) N P := by
  have ht : TNames F false [.Name x p, .Name y q] [i, j] := .cons hn (.inl rfl) (.cons hn' (.inl rfl) .nil)
  rcases swapped2 (n := n) (tp := tp) (p := p) (q := q) (x := x) (y := y) (env := F.env) hc with hw | hw
  · intro s w fi jj R E kn kr
    refine Assign_Tuple (h s w fi jj _ E fun v1 v2 u s₁ w₁ J' hN hJ fi₁ j₁ rv => ?_) hs hw
    exact wp_unpack ht fi₁ rv rfl fun s' fi' kd => kn J' _ s' w₁ hN fi' (hJ.keep _ _ _ j₁ kd)
  · intro s w fi jj R E kn kr
    refine Assign_Tuple_swapped (h s w fi jj _ E fun v1 v2 u s₁ w₁ J' hN hJ fi₁ j₁ rv => ?_) hs hw
    obtain ⟨a, items, rfl, hT, hr⟩ := rv
    have hlen : [x, y].length = items.toArray.size := by rw [List.size_toArray, hr.length]; rfl
    rw [hlen]
    refine wpAny_unpackItems_tuple F.room.hand (hT.of' fi₁.ok) fun h' hx => ?_
    have keep : ∀ b o, s₁.heap.get? b = some o → h'.get? b = some o := fun b o e => hx b o (Nat.ne_of_lt (Heap.lt_size e)) e
    have fi' : FI F false ρ { s₁ with heap := h' } w₁ := fi₁.ext (Ext.of_keep (tk := s₁.toks) keep) (fi₁.ok.keep (tk := s₁.toks) keep)
    have j₂ : J' { s₁ with heap := h' } w₁ := hJ.keep _ _ _ j₁ (KeepD.of (tk := s₁.toks) keep)
    obtain ⟨y1, _, rfl, r1, y2, _, rfl, r2, rfl⟩ := hr
    show wpAny _ _ (do holding [y1] (bindName F.env y y2); do holding [] (bindName F.env x y1); pure ()) _ _ _
    refine wpAny_bind (wpAny_holding (wpAny_bindName (fi_store fi' j hn' (.inl rfl) r2 fun s' fi₂ k₂ => wpAny_bind (wpAny_holding (wpAny_bindName (fi_store fi₂ i hn (.inl rfl) r1 fun s'' fi₃ k₃ => wpAny_pure ?_))))))
    refine kn J' _ s'' w₁ hN ?_ (hJ.keep _ _ _ (hJ.keep _ _ _ j₂ k₂) k₃)
    rw [List.set_comm _ _ hij]; exact fi₃
structure LawFacts (C : Cx) (n : Nat) (bits : Int) : Prop where
  lo : 2 ≤ bits
  hi : bits ≤ 9
  X : ∃ (InX InS : Int → Int → Prop),
    (∀ k1 k2 : Int, 0 ≤ k1 → k1 < 1 * 2 ^ (bits + 1).toNat → 0 ≤ k2 → k2 < 4 → ∃ m e, InX m e ∧ p_shifted_round bits (k1 - 1 * 2 ^ bits.toNat) (k2 - bits + 1) = some (m, e)) ∧
    (∀ k : Int, 0 ≤ k → k < 2 * 2 ^ bits.toNat + 1 → ∃ m e, InS m e ∧ p_shifted_round bits (k - 1 * 2 ^ bits.toNat) (0 - bits) = some (m, e)) ∧
    (∀ m e m' e', InX m e → InS m' e' → Spec C n "_law_is_odd" [.int bits, .real m e, .real m' e'] (fun v => v = .bool true)) ∧
    (∀ m e m' e' u f u' f', InX m e → InX m' e' → InS u f → InS u' f' → Spec C n "_law_are_ordered" [.int bits, .real m e, .real m' e', .real u f, .real u' f'] (fun v => v = .bool true)) ∧
    (∀ m e m' e', InX m e → InS m' e' → Spec C n "_law_are_bound" [.int bits, .real m e, .real m' e'] (fun v => v = .bool true)) ∧
    (∀ m e k, InX m e → 0 ≤ k → k < 7 → Spec C n "_law_are_angles" [.int bits, .real m e, .int (k - 3)] (fun v => v = .bool true))
  row : ∀ g m e m' e', (g, m, e, m', e') ∈ ([("exp_real", 0, 0, 1, 0), ("log_real", 1, 0, 0, 0), ("sin_real", 0, 0, 0, 0), ("cos_real", 0, 0, 1, 0), ("atan_real", 0, 0, 0, 0), ("acos_real", 1, 0, 0, 0)] : List (Str × Int × Int × Int × Int)) →
    ∃ a b, Spec C n g [.int bits, .real m e] (fun v => v = .real a b) ∧ p_same_real a b m' e' = some true
end
end Mine
end
section
set_option maxHeartbeats 8000000
namespace Mine
theorem law_start {C : Cx} {F : Fc C} {ρ : List V} {J : Inv} {st : Stmt} {sts : List Stmt} {N : Inv → List V → Prop} {P : V → Prop} (hbd : (defAt 86).2.1 = st :: sts) (h : SX F ρ J (st :: sts) N P) : SX F ρ J (defAt 86).2.1 N P := by rw [hbd]; exact h
theorem is_of {C : Cx} {n m : Nat} {g : Str} {vs : List V} {r : V} {Q : V → Prop} {F : Fc C} (hn : F.n = n) (h : Spec C n g vs (fun v => v = r)) (q : Q r) : Spec C F.n g vs Q := by
  rw [hn]; exact h.imp fun v e => e ▸ q
theorem law_body {C : Cx} (H : C.All) {l : List Int} (hl : l.length ≤ 63) {n : Nat} (hn20 : 6 ≤ n) {F : Fc C} (hF : F.n = n + 1) {bits : Int} (hb : bits = 2 + (((l.map V.int).length : Nat) : Int).fmod 8) (K : LawFacts C (n + 1) bits)
    (hN : F.env.scope.names = [(Str.ofString "script", NameKind.local), (Str.ofString "well", NameKind.local), (Str.ofString "bits", NameKind.local), (Str.ofString "x", NameKind.local), (Str.ofString "y", NameKind.local), (Str.ofString "small", NameKind.local), (Str.ofString "little", NameKind.local), (Str.ofString "naught", NameKind.local), (Str.ofString "one", NameKind.local), (Str.ofString "curve", NameKind.local), (Str.ofString "at", NameKind.local), (Str.ofString "due", NameKind.local), (Str.ofString "len", NameKind.globalImplicit), (Str.ofString "shifted_round", NameKind.globalImplicit), (Str.ofString "_law_drawn", NameKind.globalImplicit), (Str.ofString "Real", NameKind.globalImplicit), (Str.ofString "exp_real", NameKind.globalImplicit), (Str.ofString "log_real", NameKind.globalImplicit), (Str.ofString "sin_real", NameKind.globalImplicit), (Str.ofString "cos_real", NameKind.globalImplicit), (Str.ofString "atan_real", NameKind.globalImplicit), (Str.ofString "acos_real", NameKind.globalImplicit), (Str.ofString "same_real", NameKind.globalImplicit), (Str.ofString "_law_is_odd", NameKind.globalImplicit), (Str.ofString "_law_are_ordered", NameKind.globalImplicit), (Str.ofString "_law_are_bound", NameKind.globalImplicit), (Str.ofString "_law_are_angles", NameKind.globalImplicit)]) :
    SX F ([.lst (l.map V.int)] ++ List.replicate 26 .undef) (fun _ _ => True) (defAt 86).2.1 (fun _ _ => False) (fun v => v = .bool true) := by
  obtain ⟨lo, hi, ⟨InX, InS, hX, hS, hodd, hord, hbnd, hang⟩, hrow⟩ := K
  refine law_start rfl ?_
  refine sx_cons (x1_tup2_wp 1 2 (n1 hN) (n2 hN) (by decide) rfl rfl ?_)
  intro s w fi _ R E kk
  refine wpAny_Tuple (wpAny_items_cons ?_ rfl)
  refine wp_well H (n0 hN) (n12 hN) hl rfl rfl fi ?_
  intro s₁ w₁ a b fi₁ vl₁ W₁
  have hlen : (l.map V.int).length ≤ 1000 := by rw [List.length_map]; omega
  have hLJ : LJ F false ([.lst (l.map V.int)] ++ List.replicate 26 .undef) ⟨400, 17, 400, 95⟩ [.BinOp (.Constant (.int 2) 0 ⟨400, 75, 400, 76⟩) .Add (.BinOp (.Call (.Name "len" ⟨400, 79, 400, 82⟩) [.Name "script" ⟨400, 83, 400, 89⟩] [] ⟨400, 79, 400, 90⟩) .Mod (.Constant (.int 8) 0 ⟨400, 93, 400, 94⟩) ⟨400, 79, 400, 94⟩) ⟨400, 75, 400, 94⟩] fun us => us = [.int bits] := by
    refine lj_cons ?_ rfl
    refine ej_bin ?_
    refine ej_int ?_
    refine ej_bin ?_
    refine ej_bcall H.G 12 "len" (n12 hN) hb_len (by decide) H.b_len rfl rfl ?_
    refine lj_cons ?_ rfl
    refine ej_local 0 (n0 hN) rfl (by nofun) ?_
    refine lj_nil ?_
    refine bc_len hlen ?_
    refine ej_int ?_
    refine bq_mod (by decide) ?_
    refine bq_add ?_
    exact lj_nil (by rw [hb])
  refine hLJ s₁ w₁ fi₁ _ _ fun us xs s₂ w₂ hu x₂ ok₂ rus => ?_
  subst hu
  obtain ⟨z, zs, rfl, rz, hz⟩ := rus
  obtain rfl : zs = [] := hz
  refine ⟨show 2 ≤ sizeLine by rw [sizeLine_eq]; decide, ?_⟩
  have fi₂ := fi₁.ext x₂ ok₂
  have W₂ := (well_stable F a b).ext _ _ _ _ W₁ x₂
  have xT := Ext.alloc ok₂ (tupObj [.ref a, z]) s₂.toks
  have okT := ok₂.alloc (o := tupObj [.ref a, z]) rfl s₂.toks
  refine kk (.ref a) (.int bits) _ _ (put w₂ s₂.heap.objs.size (tupObj [.ref a, z])) (Well F a b) ?_ (well_stable F a b) (fi₂.ext xT okT) ((well_stable F a b).ext _ _ _ _ W₂ xT) ⟨_, _, rfl, tupV_put .., _, _, rfl, rfl, _, _, rfl, rz.mono xT.vle, rfl⟩
  clear hLJ
  have stab := well_stabX F a b
  have stb := well_stable F a b
  have hsm : Sm (1 : Int) := sm_small (by decide) (by decide)
  have hsm2 : Sm (2 : Int) := sm_small (by decide) (by decide)
  have hpow : 0 < (2 : Int) ^ (bits + 1).toNat := Int.pow_pos (by decide)
  have hpow' : 0 < (2 : Int) ^ bits.toNat := Int.pow_pos (by decide)
  refine sx_cons (x1_assign_dj 3 stb (n3 hN) rfl ?_)
  refine dj_call H.G stab 13 (n13 hN) rfl rfl H.f13.call ?_
  refine dlj_cons ?_ rfl
  refine dj_ej stab (ej_local 2 (n2 hN) rfl (by nofun) ?_)
  refine dlj_cons ?_ rfl
  refine dj_bin stab ?_
  refine dj_drawn H 14 1 (n14 hN) (n1 hN) rfl hF rfl rfl rfl (ej_bin (ej_int (ej_bin (ej_local 2 (n2 hN) rfl (by nofun) (ej_int (bq_add (bq_shl hsm (by omega) (by omega) ⟨_, rfl, by omega, fun r3 r30 r31 => ?_⟩)))))))
  refine dj_ej stab (ej_bin (ej_int (ej_local 2 (n2 hN) rfl (by nofun) (bq_shl hsm (by omega) (by omega) (bq_sub ?_)))))
  refine dlj_cons ?_ rfl
  refine dj_bin stab (dj_bin stab ?_)
  refine dj_drawn H 14 1 (n14 hN) (n1 hN) rfl hF rfl rfl rfl (ej_int ⟨4, rfl, by decide, fun q3 q30 q31 => ?_⟩)
  refine dj_ej stab (ej_local 2 (n2 hN) rfl (by nofun) (bq_sub ?_))
  refine dj_ej stab (ej_int (bq_add ?_))
  refine dlj_nil ?_
  obtain ⟨m3, e3, hx3, hp3⟩ := hX r3 q3 r30 r31 q30 q31
  refine cl hF (t_shifted_round H (_, _, _) _ hp3) (by omega) ?_
  refine sx_cons (x1_assign_dj 4 stb (n4 hN) rfl ?_)
  refine dj_call H.G stab 13 (n13 hN) rfl rfl H.f13.call ?_
  refine dlj_cons ?_ rfl
  refine dj_ej stab (ej_local 2 (n2 hN) rfl (by nofun) ?_)
  refine dlj_cons ?_ rfl
  refine dj_bin stab ?_
  refine dj_drawn H 14 1 (n14 hN) (n1 hN) rfl hF rfl rfl rfl (ej_bin (ej_int (ej_bin (ej_local 2 (n2 hN) rfl (by nofun) (ej_int (bq_add (bq_shl hsm (by omega) (by omega) ⟨_, rfl, by omega, fun r4 r40 r41 => ?_⟩)))))))
  refine dj_ej stab (ej_bin (ej_int (ej_local 2 (n2 hN) rfl (by nofun) (bq_shl hsm (by omega) (by omega) (bq_sub ?_)))))
  refine dlj_cons ?_ rfl
  refine dj_bin stab (dj_bin stab ?_)
  refine dj_drawn H 14 1 (n14 hN) (n1 hN) rfl hF rfl rfl rfl (ej_int ⟨4, rfl, by decide, fun q4 q40 q41 => ?_⟩)
  refine dj_ej stab (ej_local 2 (n2 hN) rfl (by nofun) (bq_sub ?_))
  refine dj_ej stab (ej_int (bq_add ?_))
  refine dlj_nil ?_
  obtain ⟨m4, e4, hx4, hp4⟩ := hX r4 q4 r40 r41 q40 q41
  refine cl hF (t_shifted_round H (_, _, _) _ hp4) (by omega) ?_
  refine sx_cons (x1_assign_dj 5 stb (n5 hN) rfl ?_)
  refine dj_call H.G stab 13 (n13 hN) rfl rfl H.f13.call ?_
  refine dlj_cons ?_ rfl
  refine dj_ej stab (ej_local 2 (n2 hN) rfl (by nofun) ?_)
  refine dlj_cons ?_ rfl
  refine dj_bin stab ?_
  refine dj_drawn H 14 1 (n14 hN) (n1 hN) rfl hF rfl rfl rfl (ej_bin (ej_bin (ej_int (ej_local 2 (n2 hN) rfl (by nofun) (bq_shl hsm2 (by omega) (by omega) (ej_int (bq_add ⟨_, rfl, by omega, fun r5 r50 r51 => ?_⟩)))))))
  refine dj_ej stab (ej_bin (ej_int (ej_local 2 (n2 hN) rfl (by nofun) (bq_shl hsm (by omega) (by omega) (bq_sub ?_)))))
  refine dlj_cons ?_ rfl
  refine dj_ej stab (ej_bin (ej_int (ej_local 2 (n2 hN) rfl (by nofun) (bq_sub ?_))))
  refine dlj_nil ?_
  obtain ⟨m5, e5, hx5, hp5⟩ := hS r5 r50 r51
  refine cl hF (t_shifted_round H (_, _, _) _ hp5) (by omega) ?_
  refine sx_cons (x1_assign_dj 6 stb (n6 hN) rfl ?_)
  refine dj_call H.G stab 13 (n13 hN) rfl rfl H.f13.call ?_
  refine dlj_cons ?_ rfl
  refine dj_ej stab (ej_local 2 (n2 hN) rfl (by nofun) ?_)
  refine dlj_cons ?_ rfl
  refine dj_bin stab ?_
  refine dj_drawn H 14 1 (n14 hN) (n1 hN) rfl hF rfl rfl rfl (ej_bin (ej_bin (ej_int (ej_local 2 (n2 hN) rfl (by nofun) (bq_shl hsm2 (by omega) (by omega) (ej_int (bq_add ⟨_, rfl, by omega, fun r6 r60 r61 => ?_⟩)))))))
  refine dj_ej stab (ej_bin (ej_int (ej_local 2 (n2 hN) rfl (by nofun) (bq_shl hsm (by omega) (by omega) (bq_sub ?_)))))
  refine dlj_cons ?_ rfl
  refine dj_ej stab (ej_bin (ej_int (ej_local 2 (n2 hN) rfl (by nofun) (bq_sub ?_))))
  refine dlj_nil ?_
  obtain ⟨m6, e6, hx6, hp6⟩ := hS r6 r60 r61
  refine cl hF (t_shifted_round H (_, _, _) _ hp6) (by omega) ?_
  refine sx_cons (x1_tup2 7 8 stb (n7 hN) (n8 hN) (by decide) rfl rfl ?_)
  refine ej_tuple ?_
  refine lj_cons ?_ rfl
  refine ej_call H.G 15 (n15 hN) rfl rfl (gc_Real H) ?_
  refine lj_cons ?_ rfl
  refine ej_int ?_
  refine lj_cons ?_ rfl
  refine ej_int ?_
  refine lj_nil ?_
  refine cl hF (spec_Real H.G H.RM _ _) (by omega) ?_
  refine lj_cons ?_ rfl
  refine ej_call H.G 15 (n15 hN) rfl rfl (gc_Real H) ?_
  refine lj_cons ?_ rfl
  refine ej_int ?_
  refine lj_cons ?_ rfl
  refine ej_int ?_
  refine lj_nil ?_
  refine cl hF (spec_Real H.G H.RM _ _) (by omega) ?_
  refine lj_nil ?_
  refine ⟨Nat.le_of_ble_eq_true rfl, ?_⟩
  refine tup_q rfl ?_
  refine sx_cons (x1_for stb (well_off F a b) (fun _ => rfl) ?_)
  refine ej_list ?_
  refine lj_cons ?_ rfl
  refine ej_tuple ?_
  refine lj_cons ?_ rfl
  refine ej_glob H.G 16 (n16 hN) (globF H.f53.call) ?_
  refine lj_cons ?_ rfl
  refine ej_local 7 (n7 hN) rfl (by nofun) ?_
  refine lj_cons ?_ rfl
  refine ej_local 8 (n8 hN) rfl (by nofun) ?_
  refine lj_nil ?_
  refine ⟨Nat.le_of_ble_eq_true rfl, ?_⟩
  refine lj_cons ?_ rfl
  refine ej_tuple ?_
  refine lj_cons ?_ rfl
  refine ej_glob H.G 17 (n17 hN) (globF H.f55.call) ?_
  refine lj_cons ?_ rfl
  refine ej_local 8 (n8 hN) rfl (by nofun) ?_
  refine lj_cons ?_ rfl
  refine ej_local 7 (n7 hN) rfl (by nofun) ?_
  refine lj_nil ?_
  refine ⟨Nat.le_of_ble_eq_true rfl, ?_⟩
  refine lj_cons ?_ rfl
  refine ej_tuple ?_
  refine lj_cons ?_ rfl
  refine ej_glob H.G 18 (n18 hN) (globF H.f61.call) ?_
  refine lj_cons ?_ rfl
  refine ej_local 7 (n7 hN) rfl (by nofun) ?_
  refine lj_cons ?_ rfl
  refine ej_local 7 (n7 hN) rfl (by nofun) ?_
  refine lj_nil ?_
  refine ⟨Nat.le_of_ble_eq_true rfl, ?_⟩
  refine lj_cons ?_ rfl
  refine ej_tuple ?_
  refine lj_cons ?_ rfl
  refine ej_glob H.G 19 (n19 hN) (globF H.f62.call) ?_
  refine lj_cons ?_ rfl
  refine ej_local 7 (n7 hN) rfl (by nofun) ?_
  refine lj_cons ?_ rfl
  refine ej_local 8 (n8 hN) rfl (by nofun) ?_
  refine lj_nil ?_
  refine ⟨Nat.le_of_ble_eq_true rfl, ?_⟩
  refine lj_cons ?_ rfl
  refine ej_tuple ?_
  refine lj_cons ?_ rfl
  refine ej_glob H.G 20 (n20 hN) (globF H.f68.call) ?_
  refine lj_cons ?_ rfl
  refine ej_local 7 (n7 hN) rfl (by nofun) ?_
  refine lj_cons ?_ rfl
  refine ej_local 7 (n7 hN) rfl (by nofun) ?_
  refine lj_nil ?_
  refine ⟨Nat.le_of_ble_eq_true rfl, ?_⟩
  refine lj_cons ?_ rfl
  refine ej_tuple ?_
  refine lj_cons ?_ rfl
  refine ej_glob H.G 21 (n21 hN) (globF H.f75.call) ?_
  refine lj_cons ?_ rfl
  refine ej_local 8 (n8 hN) rfl (by nofun) ?_
  refine lj_cons ?_ rfl
  refine ej_local 7 (n7 hN) rfl (by nofun) ?_
  refine lj_nil ?_
  refine ⟨Nat.le_of_ble_eq_true rfl, ?_⟩
  refine lj_nil ?_
  refine ⟨Nat.le_of_ble_eq_true rfl, ?_⟩
  refine ⟨false, [.tup [.gl "exp_real", .real 0 0, .real 1 0], .tup [.gl "log_real", .real 1 0, .real 0 0], .tup [.gl "sin_real", .real 0 0, .real 0 0], .tup [.gl "cos_real", .real 0 0, .real 1 0], .tup [.gl "atan_real", .real 0 0, .real 0 0], .tup [.gl "acos_real", .real 1 0, .real 0 0]], fun _ ρ' => ∃ u v y : V, ρ' = [.lst (l.map V.int), .ref a, .int bits, .real m3 e3, .real m4 e4, .real m5 e5, .real m6 e6, .real 0 0, .real 1 0, u, v, y, .undef, .undef, .undef, .undef, .undef, .undef, .undef, .undef, .undef, .undef, .undef, .undef, .undef, .undef, .undef], rfl, ⟨_, _, _, rfl⟩, ?_, ?_⟩
  · rintro i hi ρ' ⟨u, v, y, rfl⟩
    have key : ∀ (g : Str) (m e m' e' : Int), (g, m, e, m', e') ∈ ([("exp_real", 0, 0, 1, 0), ("log_real", 1, 0, 0, 0), ("sin_real", 0, 0, 0, 0), ("cos_real", 0, 0, 1, 0), ("atan_real", 0, 0, 0, 0), ("acos_real", 1, 0, 0, 0)] : List (Str × Int × Int × Int × Int)) →
        TargetJ F false [.lst (l.map V.int), .ref a, .int bits, .real m3 e3, .real m4 e4, .real m5 e5, .real m6 e6, .real 0 0, .real 1 0, u, v, y, .undef, .undef, .undef, .undef, .undef, .undef, .undef, .undef, .undef, .undef, .undef, .undef, .undef, .undef, .undef] (.Tuple [.Name "curve" ⟨406, 8, 406, 13⟩, .Name "at" ⟨406, 15, 406, 17⟩, .Name "due" ⟨406, 19, 406, 22⟩] 0 ⟨406, 8, 406, 22⟩) (.tup [.gl g, .real m e, .real m' e']) fun ρ'' => TJ F false ρ'' (.UnaryOp .Not (.Call (.Name "same_real" ⟨407, 15, 407, 24⟩) [(.Call (.Name "curve" ⟨407, 25, 407, 30⟩) [(.Name "bits" ⟨407, 31, 407, 35⟩), (.Name "at" ⟨407, 37, 407, 39⟩)] [] ⟨407, 25, 407, 40⟩), (.Name "due" ⟨407, 42, 407, 45⟩)] [] ⟨407, 15, 407, 46⟩) ⟨407, 11, 407, 46⟩) fun c => c = false ∧ ∃ u v y : V, ρ'' = [.lst (l.map V.int), .ref a, .int bits, .real m3 e3, .real m4 e4, .real m5 e5, .real m6 e6, .real 0 0, .real 1 0, u, v, y, .undef, .undef, .undef, .undef, .undef, .undef, .undef, .undef, .undef, .undef, .undef, .undef, .undef, .undef, .undef] := by
      intro g m e m' e' hmem
      obtain ⟨p, q, hs, hsame⟩ := hrow g m e m' e' hmem
      refine ⟨[9, 10, 11], .cons (n9 hN) (.inl rfl) (.cons (n10 hN) (.inl rfl) (.cons (n11 hN) (.inl rfl) .nil)), rfl, ?_⟩
      refine tj_not ?_
      refine tj_value ?_ (fun _ => rfl)
      refine ej_call H.G 22 (n22 hN) rfl rfl H.f20.call ?_
      refine lj_cons ?_ rfl
      refine ej_callv H.G rfl rfl ?_
      refine ej_local 9 (n9 hN) rfl (by nofun) ?_
      refine lj_cons ?_ rfl
      refine ej_local 2 (n2 hN) rfl (by nofun) ?_
      refine lj_cons ?_ rfl
      refine ej_local 10 (n10 hN) rfl (by nofun) ?_
      refine lj_nil ?_
      refine ⟨hs.g, is_of (m := 0) hF hs ?_⟩
      refine lj_cons ?_ rfl
      refine ej_local 11 (n11 hN) rfl (by nofun) ?_
      refine lj_nil ?_
      refine cl hF (t_same_real H ((_, _), (_, _)) _ hsame) (by omega) ?_
      refine bool_q ?_
      exact ⟨rfl, _, _, _, rfl⟩
    rcases i with _ | _ | _ | _ | _ | _ | i
    · exact key "exp_real" 0 0 1 0 (by decide)
    · exact key "log_real" 1 0 0 0 (by decide)
    · exact key "sin_real" 0 0 0 0 (by decide)
    · exact key "cos_real" 0 0 1 0 (by decide)
    · exact key "atan_real" 0 0 0 0 (by decide)
    · exact key "acos_real" 1 0 0 0 (by decide)
    · exact absurd hi (by simp)
  · rintro ρ' ⟨u, v, y, rfl⟩
    refine sx_cons (x1_if stb ?_)
    refine tj_boolop ?_
    refine aj_or_cons ?_
    refine tj_not ?_
    refine tj_value ?_ (fun _ => rfl)
    refine ej_call H.G 23 (n23 hN) rfl rfl H.f82.call ?_
    refine lj_cons ?_ rfl
    refine ej_local 2 (n2 hN) rfl (by nofun) ?_
    refine lj_cons ?_ rfl
    refine ej_local 3 (n3 hN) rfl (by nofun) ?_
    refine lj_cons ?_ rfl
    refine ej_local 5 (n5 hN) rfl (by nofun) ?_
    refine lj_nil ?_
    refine is_of (m := 0) hF (hodd _ _ _ _ hx3 hx5) ?_
    refine bool_q ?_
    refine if_ff ?_
    refine aj_or_cons ?_
    refine tj_not ?_
    refine tj_value ?_ (fun _ => rfl)
    refine ej_call H.G 24 (n24 hN) rfl rfl H.f83.call ?_
    refine lj_cons ?_ rfl
    refine ej_local 2 (n2 hN) rfl (by nofun) ?_
    refine lj_cons ?_ rfl
    refine ej_local 3 (n3 hN) rfl (by nofun) ?_
    refine lj_cons ?_ rfl
    refine ej_local 4 (n4 hN) rfl (by nofun) ?_
    refine lj_cons ?_ rfl
    refine ej_local 5 (n5 hN) rfl (by nofun) ?_
    refine lj_cons ?_ rfl
    refine ej_local 6 (n6 hN) rfl (by nofun) ?_
    refine lj_nil ?_
    refine is_of (m := 0) hF (hord _ _ _ _ _ _ _ _ hx3 hx4 hx5 hx6) ?_
    refine bool_q ?_
    refine if_ff ?_
    refine aj_or_nil ?_
    refine if_ff ?_
    refine sx_nil ?_
    refine sx_cons (x1_ret_and3 stab ?_ ?_ ?_)
    · skip
      refine ej_call H.G 25 (n25 hN) rfl rfl H.f84.call ?_
      refine lj_cons ?_ rfl
      refine ej_local 2 (n2 hN) rfl (by nofun) ?_
      refine lj_cons ?_ rfl
      refine ej_local 3 (n3 hN) rfl (by nofun) ?_
      refine lj_cons ?_ rfl
      refine ej_local 5 (n5 hN) rfl (by nofun) ?_
      refine lj_nil ?_
      exact is_of (m := 0) hF (hbnd _ _ _ _ hx3 hx5) rfl
    · skip
      refine ej_call H.G 25 (n25 hN) rfl rfl H.f84.call ?_
      refine lj_cons ?_ rfl
      refine ej_local 2 (n2 hN) rfl (by nofun) ?_
      refine lj_cons ?_ rfl
      refine ej_local 4 (n4 hN) rfl (by nofun) ?_
      refine lj_cons ?_ rfl
      refine ej_local 6 (n6 hN) rfl (by nofun) ?_
      refine lj_nil ?_
      exact is_of (m := 0) hF (hbnd _ _ _ _ hx4 hx6) rfl
    · refine dj_call H.G stab 26 (n26 hN) rfl rfl H.f85.call ?_
      refine dlj_cons ?_ rfl
      refine dj_ej stab (ej_local 2 (n2 hN) rfl (by nofun) ?_)
      refine dlj_cons ?_ rfl
      refine dj_ej stab (ej_local 3 (n3 hN) rfl (by nofun) ?_)
      refine dlj_cons ?_ rfl
      refine dj_bin stab ?_
      refine dj_drawn H 14 1 (n14 hN) (n1 hN) rfl hF rfl rfl rfl (ej_int ⟨7, rfl, by decide, fun r h0 h1 => ?_⟩)
      refine dj_ej stab (ej_int (bq_sub ?_))
      refine dlj_nil ?_
      exact is_of (m := 0) hF (hang _ _ _ hx3 h0 h1) rfl
end Mine
end
section
namespace Mine
noncomputable def OF : Nat := 1606938044258990275541962092341162602522202993782792835301376
noncomputable def dec (a : Nat) : Int := (a : Int) - (OF : Int)
noncomputable def nlit (k : Nat) : Nat := Nat.add OF k
noncomputable def nng (k : Nat) : Nat := Nat.sub OF k
theorem dec_lit (k : Nat) : dec (nlit k) = (k : Int) := by unfold dec nlit; simp only [Nat.add_eq]; omega
theorem OF_big : 1000000 ≤ OF := by decide
theorem dec_ng (k : Nat) (h : k ≤ OF) : dec (nng k) = -(k : Int) := by unfold dec nng; simp only [Nat.sub_eq]; omega
theorem dec_of {n : Nat} : dec (n + OF) = (n : Int) := by unfold dec; omega
noncomputable def ck (c x : Bool) : Bool := @Bool.rec (fun _ => Bool) false x c
noncomputable def sel (c x y : Bool) : Bool := @Bool.rec (fun _ => Bool) y x c
theorem ck_s {c x : Bool} (h : ck c x = true) : c = true ∧ x = true := by
  cases c with
  | false => cases h
  | true => exact ⟨rfl, h⟩
theorem sel_s {c x y : Bool} (h : sel c x y = true) : (c = true ∧ x = true) ∨ (c = false ∧ y = true) := by
  cases c with
  | false => exact .inr ⟨rfl, h⟩
  | true => exact .inl ⟨rfl, h⟩
theorem ble_s {m n : Nat} (h : Nat.ble m n = true) : m ≤ n := Nat.le_of_ble_eq_true h
theorem ckb {m n : Nat} {x : Bool} (h : ck (Nat.ble m n) x = true) : m ≤ n ∧ x = true := ⟨ble_s (ck_s h).1, (ck_s h).2⟩
theorem not_ble {a b : Nat} (h : Nat.ble a b = false) : ¬ a ≤ b := fun q => by rw [Nat.ble_eq_true_of_le q] at h; cases h
theorem selb {m n : Nat} {x y : Bool} (h : sel (Nat.ble m n) x y = true) : (m ≤ n ∧ x = true) ∨ (¬ m ≤ n ∧ y = true) := by
  rcases sel_s h with ⟨a, b⟩ | ⟨a, b⟩
  · exact .inl ⟨ble_s a, b⟩
  · exact .inr ⟨not_ble a, b⟩
theorem selq {m n : Nat} {x y : Bool} (h : sel (Nat.beq m n) x y = true) : (m = n ∧ x = true) ∨ (¬ m = n ∧ y = true) := by
  rcases sel_s h with ⟨a, b⟩ | ⟨a, b⟩
  · exact .inl ⟨Nat.eq_of_beq_eq_true a, b⟩
  · exact .inr ⟨(fun q => by subst q; rw [Nat.beq_refl] at a; cases a), b⟩
theorem ckq {m n : Nat} {x : Bool} (h : ck (Nat.beq m n) x = true) : m = n ∧ x = true := ⟨Nat.eq_of_beq_eq_true (ck_s h).1, (ck_s h).2⟩
theorem bool_iff {x : Bool} {p : Prop} [Decidable p] (h : x = true ↔ p) : x = decide p := by
  cases x
  · exact (decide_eq_false fun q => by cases h.mpr q).symm
  · exact (decide_eq_true (h.mp rfl)).symm
theorem ble_iff (m n : Nat) : Nat.ble m n = true ↔ m ≤ n := ⟨Nat.le_of_ble_eq_true, Nat.ble_eq_true_of_le⟩
theorem beq_iff' (m n : Nat) : Nat.beq m n = true ↔ m = n := ⟨Nat.eq_of_beq_eq_true, fun h => by subst h; exact Nat.beq_refl m⟩
theorem gmul_of {a b : Int} (ha : Sm a) (hb : Sm b) : gmul a b = some (a * b) := if_pos ⟨ha, hb⟩
theorem gdiv_of {a b : Int} (hb : b ≠ 0) (hs : Sm b) : gdiv a b = some (a.fdiv b) := if_pos ⟨hb, hs⟩
theorem gmod_of {a b : Int} (hb : b ≠ 0) : gmod a b = some (a.fmod b) := if_pos hb
theorem gshl_of {a n : Int} (ha : Sm a) (h0 : 0 ≤ n) (h1 : n ≤ 100000) : gshl a n = some (a * 2 ^ n.toNat) := if_pos ⟨ha, h0, h1⟩
theorem gshr_of {a n : Int} (h0 : 0 ≤ n) : gshr a n = some (a.fdiv (2 ^ n.toNat)) := if_pos h0
theorem fdiv_nat (m n : Nat) : (m : Int).fdiv (n : Int) = ((m / n : Nat) : Int) := by
  rw [Int.fdiv_eq_ediv_of_nonneg _ (Int.natCast_nonneg n)]; rfl
theorem pow_cast (k : Nat) : ((2 ^ k : Nat) : Int) = 2 ^ k := by rw [Int.natCast_pow]; rfl
theorem two_pos (w : Nat) : 0 < 2 ^ w := Nat.pow_pos (by decide)
theorem OF_sm : OF ≤ 2 ^ 1000 := Nat.le_trans (show OF ≤ 2 ^ 200 by decide) (Nat.pow_le_pow_right (by decide) (by decide))
theorem lt8 {n : Nat} (h : n ≤ 2 ^ 1000) : n < 2 ^ 8000 := Nat.lt_of_le_of_lt h (Nat.pow_lt_pow_right (by decide) (by decide))
theorem sm_dec {a : Nat} (h : a ≤ 2 ^ 1000) : Sm (dec a) := by
  unfold Sm dec
  have := OF_sm
  have : ((a : Int) - (OF : Int)).natAbs ≤ 2 ^ 1000 := by omega
  exact lt8 this
theorem sm_nat {a : Nat} (h : a ≤ 2 ^ 1000) : Sm (a : Int) := by unfold Sm; rw [Int.natAbs_natCast]; exact lt8 h
noncomputable def nadd (a b : Nat) (K : Nat → Bool) : Bool := ck (Nat.ble OF (Nat.add a b)) (K (Nat.sub (Nat.add a b) OF))
theorem nadd_s {a b : Nat} {x y : Int} {K : Nat → Bool} (hx : dec a = x) (hy : dec b = y) (h : nadd a b K = true) : ∃ c, x + y = dec c ∧ K c = true := by
  obtain ⟨h1, h⟩ := ckb h
  refine ⟨_, ?_, h⟩
  subst hx hy
  unfold dec; simp only [Nat.sub_eq, Nat.add_eq] at h1 ⊢; omega
noncomputable def nsub (a b : Nat) (K : Nat → Bool) : Bool := ck (Nat.ble b (Nat.add a OF)) (K (Nat.sub (Nat.add a OF) b))
theorem nsub_s {a b : Nat} {x y : Int} {K : Nat → Bool} (hx : dec a = x) (hy : dec b = y) (h : nsub a b K = true) : ∃ c, x - y = dec c ∧ K c = true := by
  obtain ⟨h1, h⟩ := ckb h
  refine ⟨_, ?_, h⟩
  subst hx hy
  unfold dec; simp only [Nat.sub_eq, Nat.add_eq] at h1 ⊢; omega
noncomputable def big : Nat := 10715086071862673209484250490600018105614048117055336074437503883703510511249361224931983788156958581275946729175531468251871452856923140435984577574698574803934567774824230985421074605062371141877954182153046474983581941267398767559165543946077062914571196477686542167660429831652624386837205668069376
theorem big_eq : big = 2 ^ 1000 := by decide +kernel
noncomputable def nmul (a b : Nat) (K : Nat → Bool) : Bool := ck (Nat.ble a big) (ck (Nat.ble b big) (ck (Nat.ble (Nat.mul OF (Nat.add a b)) (Nat.add (Nat.mul a b) (Nat.mul OF (Nat.add OF 1)))) (K (Nat.sub (Nat.add (Nat.mul a b) (Nat.mul OF (Nat.add OF 1))) (Nat.mul OF (Nat.add a b))))))
theorem nmul_s {a b : Nat} {x y : Int} {K : Nat → Bool} (hx : dec a = x) (hy : dec b = y) (h : nmul a b K = true) : ∃ c, gmul x y = some (dec c) ∧ K c = true := by
  obtain ⟨h1, h⟩ := ckb h
  obtain ⟨h2, h⟩ := ckb h
  obtain ⟨h3, h⟩ := ckb h
  refine ⟨_, ?_, h⟩
  subst hx hy
  rw [big_eq] at h1 h2
  rw [gmul_of (sm_dec h1) (sm_dec h2)]
  refine congrArg some ?_
  simp only [Nat.mul_eq, Nat.add_eq, Nat.sub_eq] at h3 ⊢
  unfold dec
  rw [Nat.mul_add, Nat.mul_add, Nat.mul_one] at h3 ⊢
  rw [Int.sub_mul, Int.mul_sub, Int.mul_sub]
  have e1 : ((a * b : Nat) : Int) = (a : Int) * b := Int.natCast_mul a b
  have e2 : ((OF * a : Nat) : Int) = (a : Int) * OF := by rw [Nat.mul_comm]; exact Int.natCast_mul a OF
  have e3 : ((OF * b : Nat) : Int) = (OF : Int) * b := Int.natCast_mul OF b
  have e4 : ((OF * OF : Nat) : Int) = (OF : Int) * OF := Int.natCast_mul OF OF
  rw [← e1, ← e2, ← e3, ← e4]
  generalize a * b = p at *
  generalize OF * a = q at *
  generalize OF * b = r at *
  generalize OF * OF = s at *
  omega
theorem fdiv_dec (a d : Nat) (hd : 0 < d) : (dec a).fdiv (d : Int) = dec ((a + (d - 1) * OF) / d) := by
  rw [Int.fdiv_eq_ediv_of_nonneg _ (Int.natCast_nonneg d)]
  have e : dec a = ((a + (d - 1) * OF : Nat) : Int) + -(OF : Int) * (d : Int) := by
    unfold dec
    have : (((d - 1) * OF : Nat) : Int) = (d : Int) * OF - OF := by
      rw [Int.natCast_mul, show ((d - 1 : Nat) : Int) = (d : Int) - 1 by omega, Int.sub_mul, Int.one_mul]
    rw [Int.natCast_add, this, Int.neg_mul, Int.mul_comm (OF : Int) (d : Int)]
    generalize (d : Int) * OF = t
    omega
  rw [e, Int.add_mul_ediv_right _ _ (by omega)]
  unfold dec
  rw [show ((a + (d - 1) * OF : Nat) : Int) / (d : Int) = (((a + (d - 1) * OF) / d : Nat) : Int) from rfl]
  omega
theorem ndiv_rfl (a d o : Nat) : (a + (d - 1) * o) / d = Nat.div (Nat.add a (Nat.mul (Nat.sub d 1) o)) d := rfl
noncomputable def ndiv (a b : Nat) (K : Nat → Bool) : Bool := ck (Nat.ble (Nat.add OF 1) b) (ck (Nat.ble b big) (K (Nat.div (Nat.add a (Nat.mul (Nat.sub (Nat.sub b OF) 1) OF)) (Nat.sub b OF))))
theorem ndiv_s {a b : Nat} {x y : Int} {K : Nat → Bool} (hx : dec a = x) (hy : dec b = y) (h : ndiv a b K = true) : ∃ c, gdiv x y = some (dec c) ∧ K c = true := by
  obtain ⟨h1, h⟩ := ckb h
  obtain ⟨h2, h⟩ := ckb h
  refine ⟨_, ?_, h⟩
  subst hx hy
  rw [big_eq] at h2
  simp only [Nat.add_eq] at h1
  have e : dec b = ((b - OF : Nat) : Int) := by unfold dec; omega
  have := sm_dec h2
  rw [e] at this
  rw [e, gdiv_of (by omega) this, fdiv_dec a (b - OF) (by omega)]
  exact congrArg (fun n => some (dec n)) (ndiv_rfl a (b - OF) OF)
noncomputable def nmod (a b : Nat) (K : Nat → Bool) : Bool := ck (Nat.ble (Nat.add OF 1) b) (K (Nat.add (Nat.mod (Nat.add a (Nat.mul (Nat.sub (Nat.sub b OF) 1) OF)) (Nat.sub b OF)) OF))
theorem nmod_s {a b : Nat} {x y : Int} {K : Nat → Bool} (hx : dec a = x) (hy : dec b = y) (h : nmod a b K = true) : ∃ c, gmod x y = some (dec c) ∧ K c = true := by
  obtain ⟨h1, h⟩ := ckb h
  refine ⟨_, ?_, h⟩
  subst hx hy
  simp only [Nat.add_eq] at h1
  have e : dec b = ((b - OF : Nat) : Int) := by unfold dec; omega
  rw [e, gmod_of (by omega)]
  refine congrArg some ?_
  have e2 : (dec a).fmod ((b - OF : Nat) : Int) = dec a - ((b - OF : Nat) : Int) * (dec a).fdiv ((b - OF : Nat) : Int) := Int.fmod_def ..
  rw [e2, fdiv_dec a (b - OF) (by omega)]
  simp only [Nat.add_eq, Nat.mul_eq, Nat.sub_eq]
  rw [dec_of]
  generalize hd : b - OF = d
  have hd0 : 0 < d := by omega
  have em0 : ∀ x : Nat, Nat.mod x d = x % d := fun _ => rfl
  rw [em0]
  have em := Nat.div_add_mod (a + (d - 1) * OF) d
  have e3 : (((d - 1) * OF : Nat) : Int) = (d : Int) * OF - OF := by
    rw [Int.natCast_mul, show ((d - 1 : Nat) : Int) = (d : Int) - 1 by omega, Int.sub_mul, Int.one_mul]
  have em' : (d : Int) * (((a + (d - 1) * OF) / d : Nat) : Int) + (((a + (d - 1) * OF) % d : Nat) : Int) = (a : Int) + ((d : Int) * OF - OF) := by
    rw [← e3, ← Int.natCast_add, ← Int.natCast_mul, ← Int.natCast_add]
    exact congrArg (fun n : Nat => (n : Int)) em
  unfold dec
  rw [Int.mul_sub]
  generalize (d : Int) * (((a + (d - 1) * OF) / d : Nat) : Int) = p at *
  generalize (d : Int) * OF = q at *
  generalize (((a + (d - 1) * OF) % d : Nat) : Int) = u at *
  omega
noncomputable def nshl (a n : Nat) (K : Nat → Bool) : Bool :=
  ck (Nat.ble OF n) (ck (Nat.ble n (Nat.add OF 1000)) (ck (Nat.ble a big) ((fun P => ck (Nat.ble (Nat.mul OF P) (Nat.add (Nat.mul a P) OF)) (K (Nat.sub (Nat.add (Nat.mul a P) OF) (Nat.mul OF P)))) (Nat.pow 2 (Nat.sub n OF)))))
theorem nshl_s {a n : Nat} {x y : Int} {K : Nat → Bool} (hx : dec a = x) (hy : dec n = y) (h : nshl a n K = true) : ∃ c, gshl x y = some (dec c) ∧ K c = true := by
  obtain ⟨h1, h⟩ := ckb h
  obtain ⟨h2, h⟩ := ckb h
  obtain ⟨h3, h⟩ := ckb h
  obtain ⟨h4, h⟩ := ckb h
  refine ⟨_, ?_, h⟩
  subst hx hy
  rw [big_eq] at h3
  simp only [Nat.add_eq] at h2
  have e : dec n = ((n - OF : Nat) : Int) := by unfold dec; omega
  rw [e, gshl_of (sm_dec h3) (by omega) (by omega), Int.toNat_natCast, ← pow_cast]
  refine congrArg some ?_
  simp only [Nat.add_eq, Nat.mul_eq, Nat.sub_eq] at h4 ⊢
  have hp : Nat.pow 2 (n - OF) = 2 ^ (n - OF) := rfl
  rw [hp] at h4 ⊢
  generalize 2 ^ (n - OF) = P at *
  unfold dec
  rw [Int.sub_mul]
  have e1 : ((a * P : Nat) : Int) = (a : Int) * P := Int.natCast_mul a P
  have e2 : ((OF * P : Nat) : Int) = (OF : Int) * P := Int.natCast_mul OF P
  rw [← e1, ← e2]
  generalize a * P = p at *
  generalize OF * P = q at *
  omega
noncomputable def nshr (a n : Nat) (K : Nat → Bool) : Bool :=
  ck (Nat.ble OF n) ((fun P => K (Nat.div (Nat.add a (Nat.mul (Nat.sub P 1) OF)) P)) (Nat.pow 2 (Nat.sub n OF)))
theorem nshr_s {a n : Nat} {x y : Int} {K : Nat → Bool} (hx : dec a = x) (hy : dec n = y) (h : nshr a n K = true) : ∃ c, gshr x y = some (dec c) ∧ K c = true := by
  obtain ⟨h1, h⟩ := ckb h
  refine ⟨_, ?_, h⟩
  subst hx hy
  have e : dec n = ((n - OF : Nat) : Int) := by unfold dec; omega
  rw [e, gshr_of (by omega), Int.toNat_natCast, ← pow_cast, fdiv_dec _ _ (two_pos _)]
  exact congrArg (fun n => some (dec n)) (ndiv_rfl a (2 ^ (n - OF)) OF)
noncomputable def nabs (a : Nat) (K : Nat → Bool) : Bool := sel (Nat.ble OF a) (K a) (K (Nat.sub (Nat.add OF OF) a))
theorem nabs_s {a : Nat} {x : Int} {K : Nat → Bool} (hx : dec a = x) (h : nabs a K = true) : ∃ c, (x.natAbs : Int) = dec c ∧ K c = true := by
  subst hx
  rcases selb h with ⟨h1, h⟩ | ⟨h1, h⟩
  · exact ⟨_, by unfold dec; omega, h⟩
  · exact ⟨_, by unfold dec; simp only [Nat.add_eq, Nat.sub_eq]; omega, h⟩
noncomputable def kst (k n a : Nat) (K : Nat → Nat → Bool) : Bool := sel (Nat.ble (Nat.pow 2 k) n) (K (Nat.div n (Nat.pow 2 k)) (Nat.add a k)) (K n a)
noncomputable def klogS (n : Nat) (K : Nat → Bool) : Bool := kst 8 n 0 fun n a => kst 4 n a fun n a => kst 2 n a fun n a => kst 1 n a fun _ a => K a
noncomputable def klogL (n : Nat) (K : Nat → Bool) : Bool :=
  kst 128 n 0 fun n a => kst 64 n a fun n a => kst 32 n a fun n a => kst 16 n a fun n a => kst 8 n a fun n a => kst 4 n a fun n a => kst 2 n a fun n a => kst 1 n a fun _ a => K a
noncomputable def klog (n : Nat) (K : Nat → Bool) : Bool := sel (Nat.ble n 65535) (klogS n K) (klogL n K)
theorem kst_s {k n a : Nat} {K : Nat → Nat → Bool} (h : kst k n a K = true) : ∃ n' a', K n' a' = true := by
  rcases selb h with ⟨_, h⟩ | ⟨_, h⟩ <;> exact ⟨_, _, h⟩
theorem klogS_s {n : Nat} {K : Nat → Bool} (h : klogS n K = true) : ∃ a, K a = true := by
  obtain ⟨_, _, h⟩ := kst_s h
  obtain ⟨_, _, h⟩ := kst_s h
  obtain ⟨_, _, h⟩ := kst_s h
  obtain ⟨_, a, h⟩ := kst_s h
  exact ⟨a, h⟩
theorem klog_s {n : Nat} {K : Nat → Bool} (h : klog n K = true) : ∃ a, K a = true := by
  rcases selb h with ⟨_, h⟩ | ⟨_, h⟩
  · exact klogS_s h
  · obtain ⟨_, _, h⟩ := kst_s h
    obtain ⟨_, _, h⟩ := kst_s h
    obtain ⟨_, _, h⟩ := kst_s h
    obtain ⟨_, _, h⟩ := kst_s h
    obtain ⟨_, _, h⟩ := kst_s h
    obtain ⟨_, _, h⟩ := kst_s h
    obtain ⟨_, _, h⟩ := kst_s h
    obtain ⟨_, a, h⟩ := kst_s h
    exact ⟨a, h⟩
noncomputable def knbG (n a : Nat) (K : Nat → Bool) : Bool := ck (Nat.ble (Nat.pow 2 a) n) (ck (Nat.ble (Nat.add n 1) (Nat.pow 2 (Nat.add a 1))) (K a))
noncomputable def nbv (n : Nat) : Nat := if n = 0 then 0 else n.log2 + 1
theorem knbG_s {n a : Nat} {K : Nat → Bool} (h : knbG n a K = true) : nbv n = a + 1 ∧ 1 ≤ n ∧ 2 ^ a ≤ n ∧ n < 2 ^ (a + 1) ∧ K a = true := by
  obtain ⟨h1, h⟩ := ckb h
  obtain ⟨h2, h⟩ := ckb h
  have h1 : 2 ^ a ≤ n := h1
  have h2 : n + 1 ≤ 2 ^ (a + 1) := h2
  have hn : n ≠ 0 := fun q => by have := two_pos a; omega
  have e : n.log2 = a := by
    have a1 : a ≤ n.log2 := (Nat.le_log2 hn).mpr h1
    have a2 : n.log2 < a + 1 := (Nat.log2_lt hn).mpr (Nat.lt_of_succ_le h2)
    omega
  exact ⟨by unfold nbv; rw [if_neg hn, e], by omega, h1, h2, h⟩
theorem bits_nat (a : Int) : Builtin.Int.intBits a = nbv a.natAbs := by
  unfold Builtin.Int.intBits nbv
  by_cases h : a = 0
  · subst h; rfl
  · rw [if_neg (by rw [beq_iff_eq]; exact h), if_neg (by omega)]
noncomputable def nbits (a : Nat) (K : Nat → Bool) : Bool :=
  (fun n => sel (Nat.beq n 0) (K OF) (klog n fun z => knbG n z fun z => K (Nat.add (Nat.add OF 1) z))) (Nat.add (Nat.sub a OF) (Nat.sub OF a))
theorem nbits_s {a : Nat} {x : Int} {K : Nat → Bool} (hx : dec a = x) (h : nbits a K = true) : ∃ c, (Builtin.Int.intBits x : Int) = dec c ∧ K c = true := by
  subst hx
  have e : (dec a).natAbs = a - OF + (OF - a) := by unfold dec; omega
  rw [bits_nat, e]
  have h : sel (Nat.beq (a - OF + (OF - a)) 0) (K OF) (klog (a - OF + (OF - a)) fun z => knbG (a - OF + (OF - a)) z fun z => K (Nat.add (Nat.add OF 1) z)) = true := h
  generalize a - OF + (OF - a) = n at h
  rcases selq h with ⟨h0, h⟩ | ⟨h0, h⟩
  · subst h0
    exact ⟨OF, by unfold dec nbv; simp, h⟩
  · obtain ⟨z, h⟩ := klog_s h
    obtain ⟨n1, _, _, _, h⟩ := knbG_s h
    exact ⟨_, by rw [n1]; unfold dec; simp only [Nat.add_eq]; omega, h⟩
noncomputable def nlt (a b : Nat) : Bool := Nat.ble (Nat.succ a) b
noncomputable def nle (a b : Nat) : Bool := Nat.ble a b
noncomputable def neq (a b : Nat) : Bool := Nat.beq a b
theorem nlt_eq {a b : Nat} {x y : Int} (hx : dec a = x) (hy : dec b = y) : nlt a b = decide (x < y) := bool_iff (by subst hx hy; show Nat.ble (Nat.succ a) b = true ↔ _; rw [ble_iff]; unfold dec; omega)
theorem nle_eq {a b : Nat} {x y : Int} (hx : dec a = x) (hy : dec b = y) : nle a b = decide (x ≤ y) := bool_iff (by subst hx hy; show Nat.ble a b = true ↔ _; rw [ble_iff]; unfold dec; omega)
theorem neq_eq {a b : Nat} {x y : Int} (hx : dec a = x) (hy : dec b = y) : neq a b = decide (x = y) := bool_iff (by subst hx hy; show Nat.beq a b = true ↔ _; rw [beq_iff']; unfold dec; omega)
noncomputable def nmax (a b : Nat) (K : Nat → Bool) : Bool := sel (Nat.ble a b) (K b) (K a)
noncomputable def nmin (a b : Nat) (K : Nat → Bool) : Bool := sel (Nat.ble a b) (K a) (K b)
theorem nmax_s {a b : Nat} {x y : Int} {K : Nat → Bool} (hx : dec a = x) (hy : dec b = y) (h : nmax a b K = true) : ∃ c, max x y = dec c ∧ K c = true := by
  subst hx hy
  rcases selb h with ⟨h1, h⟩ | ⟨h1, h⟩ <;> exact ⟨_, by unfold dec; omega, h⟩
theorem nmin_s {a b : Nat} {x y : Int} {K : Nat → Bool} (hx : dec a = x) (hy : dec b = y) (h : nmin a b K = true) : ∃ c, min x y = dec c ∧ K c = true := by
  subst hx hy
  rcases selb h with ⟨h1, h⟩ | ⟨h1, h⟩ <;> exact ⟨_, by unfold dec; omega, h⟩
noncomputable def nmin4 (a b c d : Nat) (K : Nat → Bool) : Bool := nmin a b fun x => nmin x c fun y => nmin y d K
noncomputable def nmax4 (a b c d : Nat) (K : Nat → Bool) : Bool := nmax a b fun x => nmax x c fun y => nmax y d K
theorem nmin4_s {a b c d : Nat} {K : Nat → Bool} (h : nmin4 a b c d K = true) : ∃ z, minL (dec a) [dec b, dec c, dec d] = dec z ∧ K z = true := by
  obtain ⟨x, e1, h⟩ := nmin_s rfl rfl h
  obtain ⟨y, e2, h⟩ := nmin_s e1.symm rfl h
  obtain ⟨z, e3, h⟩ := nmin_s e2.symm rfl h
  exact ⟨z, e3, h⟩
theorem nmax4_s {a b c d : Nat} {K : Nat → Bool} (h : nmax4 a b c d K = true) : ∃ z, maxL (dec a) [dec b, dec c, dec d] = dec z ∧ K z = true := by
  obtain ⟨x, e1, h⟩ := nmax_s rfl rfl h
  obtain ⟨y, e2, h⟩ := nmax_s e1.symm rfl h
  obtain ⟨z, e3, h⟩ := nmax_s e2.symm rfl h
  exact ⟨z, e3, h⟩
theorem bind_ex {α β : Type} {x : Option α} {f : α → Option β} {P : β → Prop} (h : ∃ t, x = some t ∧ ∃ r, f t = some r ∧ P r) : ∃ r, x.bind f = some r ∧ P r := by
  obtain ⟨t, rfl, r, h1, h2⟩ := h; exact ⟨r, h1, h2⟩
end Mine
end
section
namespace Mine
noncomputable def opn (K : Nat → Nat → Bool) (Kn : Bool) : Option (Int × Int) → Prop
  | none => Kn = true
  | some (a, b) => ∃ c d, a = dec c ∧ b = dec d ∧ K c d = true
theorem dec_m1 : dec (nng 1) = -1 := dec_ng 1 (Nat.le_trans (by decide) OF_big)
theorem pair_eq {a b : Nat} {x y : Int} (h1 : dec a = x) (h2 : dec b = y) : (x, y) = (dec a, dec b) := by rw [h1, h2]
theorem dec_pos {a : Nat} (h : OF ≤ a) : dec a = ((a - OF : Nat) : Int) := by unfold dec; omega
theorem dec_neg {a : Nat} (h : a ≤ OF) : dec a = -((OF - a : Nat) : Int) := by unfold dec; omega
theorem land_rfl (x y : Nat) : x &&& y = Nat.land x y := rfl
noncomputable def nand (a b : Nat) (K : Nat → Bool) : Bool := ck (Nat.ble OF a) (ck (Nat.ble OF b) (K (Nat.add (Nat.land (Nat.sub a OF) (Nat.sub b OF)) OF)))
theorem nand_s {a b : Nat} {x y : Int} {K : Nat → Bool} (hx : dec a = x) (hy : dec b = y) (h : nand a b K = true) : ∃ c, Builtin.bitAnd x y = dec c ∧ K c = true := by
  obtain ⟨h1, h⟩ := ckb h
  obtain ⟨h2, h⟩ := ckb h
  subst hx hy
  refine ⟨_, ?_, h⟩
  rw [dec_pos h1, dec_pos h2, bitAnd_pp (by omega) (by omega), Int.toNat_natCast, Int.toNat_natCast]
  simp only [Nat.add_eq, Nat.sub_eq]
  rw [dec_of]
  exact congrArg (fun n : Nat => (n : Int)) (land_rfl _ _)
noncomputable def n_sign_of_whole (n : Nat) (K : Nat → Bool) : Bool := sel (Nat.beq n OF) (K OF) (sel (Nat.ble OF n) (K (nlit 1)) (K (nng 1)))
theorem n_sign_of_whole_s {n : Nat} {x : Int} {K : Nat → Bool} (hx : dec n = x) (h : n_sign_of_whole n K = true) : ∃ r, p_sign_of_whole x = some r ∧ ∃ c, r = dec c ∧ K c = true := by
  subst hx
  refine ⟨_, rfl, ?_⟩
  rcases selq h with ⟨h1, h⟩ | ⟨h1, h⟩
  · subst h1
    exact ⟨OF, by rw [show dec OF = 0 by unfold dec; omega]; rfl, h⟩
  · rcases selb h with ⟨h2, h⟩ | ⟨h2, h⟩
    · exact ⟨_, by rw [dec_lit, decide_eq_true (show 0 < dec n by unfold dec; omega), decide_eq_false (show ¬ dec n < 0 by unfold dec; omega)]; rfl, h⟩
    · exact ⟨_, by rw [dec_m1, decide_eq_false (show ¬ 0 < dec n by unfold dec; omega), decide_eq_true (show dec n < 0 by unfold dec; omega)]; rfl, h⟩
theorem low_bit (m : Nat) (hm : 1 ≤ m) : Builtin.bitAnd (m : Int) (0 - (m : Int)) = ((m - Nat.land m (m - 1) : Nat) : Int) := by
  rw [bitAnd_pn (by omega) (by omega)]
  have e : (Builtin.bitNot (0 - (m : Int))).toNat = m - 1 := by unfold Builtin.bitNot; omega
  rw [e, Int.toNat_natCast]
  have : m &&& (m - 1) ≤ m := Nat.and_le_left
  show (m : Int) - ((m &&& (m - 1) : Nat) : Int) = ((m - (m &&& (m - 1)) : Nat) : Int)
  omega
theorem low_bit' (x : Int) (hx : x ≠ 0) : Builtin.bitAnd x (0 - x) = ((x.natAbs - Nat.land x.natAbs (x.natAbs - 1) : Nat) : Int) := by
  rcases Int.lt_or_lt_of_ne hx with h | h
  · have e : x = 0 - (x.natAbs : Int) := by omega
    rw [show (0 : Int) - x = (x.natAbs : Int) by omega, bitAnd_comm]
    have := low_bit x.natAbs (by omega)
    rw [← e] at this
    exact this
  · have e : x = (x.natAbs : Int) := by omega
    have := low_bit x.natAbs (by omega)
    rw [← e] at this
    exact this
noncomputable def n_zeros_below (n : Nat) (K : Nat → Bool) : Bool :=
  (fun m => ck (Nat.ble 1 m) ((fun low => klog low fun z => knbG low z fun z => K (Nat.add OF z)) (Nat.sub m (Nat.land m (Nat.sub m 1))))) (Nat.add (Nat.sub n OF) (Nat.sub OF n))
theorem n_zeros_below_s {n : Nat} {x : Int} {K : Nat → Bool} (hx : dec n = x) (h : n_zeros_below n K = true) : ∃ r, p_zeros_below x = some r ∧ ∃ c, r = dec c ∧ K c = true := by
  subst hx
  have e : (dec n).natAbs = n - OF + (OF - n) := by unfold dec; omega
  obtain ⟨h1, h⟩ := ckb (show ck (Nat.ble 1 (n - OF + (OF - n))) _ = true from h)
  obtain ⟨z, h⟩ := klog_s h
  obtain ⟨n1, _, _, _, h⟩ := knbG_s h
  refine ⟨_, rfl, _, ?_, h⟩
  rw [low_bit' _ (by intro q; rw [q] at e; simp at e; omega), bits_nat, Int.natAbs_natCast, e]
  have n1' : nbv (n - OF + (OF - n) - Nat.land (n - OF + (OF - n)) (n - OF + (OF - n) - 1)) = z + 1 := n1
  rw [n1']
  unfold dec; simp only [Nat.add_eq]; omega
end Mine
end
section
namespace Mine
abbrev KF := Nat → (Nat → Nat → Bool) → Bool → Bool
inductive W where
  | int (a : Nat)
  | bool (b : Bool)
  | non
  | str (s : Str)
  | tup (l : List W)
  | lst (l : List W)
  | real (m e : Nat)
  | fn (k : KF)
  | gl (g : Str)
  | undef
noncomputable def FnR (k : KF) (Fn : Int → Option (Option (Int × Int))) : Prop := ∀ {a : Nat} {K : Nat → Nat → Bool} {Kn : Bool}, k a K Kn = true → ∃ r, Fn (dec a) = some r ∧ opn K Kn r
inductive WR : W → V → Prop
  | int (a) : WR (.int a) (.int (dec a))
  | bool (b) : WR (.bool b) (.bool b)
  | non : WR .non .none
  | str (s) : WR (.str s) (.str s)
  | tup0 : WR (.tup []) (.tup [])
  | tup {w v ws vs} : WR w v → WR (.tup ws) (.tup vs) → WR (.tup (w :: ws)) (.tup (v :: vs))
  | lst {ws vs} : WR (.tup ws) (.tup vs) → WR (.lst ws) (.lst vs)
  | real (m e) : WR (.real m e) (.real (dec m) (dec e))
  | fn {k Fn} : FnR k Fn → WR (.fn k) (.fn Fn)
  | gl (g) : WR (.gl g) (.gl g)
  | undef : WR .undef .undef
theorem no {P : Prop} (h : false = true) : P := absurd h Bool.false_ne_true
noncomputable abbrev gd (c x : Bool) : Bool := @Bool.rec (fun _ => Bool) false x c
noncomputable abbrev gs (c x y : Bool) : Bool := @Bool.rec (fun _ => Bool) y x c
noncomputable abbrev intW (w : W) (K : Nat → Bool) : Bool := match w with | .int a => K a | _ => false
noncomputable abbrev boolW (w : W) (K : Bool → Bool) : Bool := match w with | .bool a => K a | _ => false
noncomputable abbrev realW (w : W) (K : Nat → Nat → Bool) : Bool := match w with | .real a b => K a b | _ => false
noncomputable abbrev tupW (w : W) (K : List W → Bool) : Bool := match w with | .tup a => K a | _ => false
noncomputable abbrev nonW (w : W) (K : Bool) : Bool := match w with | .non => K | _ => false
section
variable {w : W} {v : V} {P : V → Prop}
theorem intW_s {K : Nat → Bool} (r : WR w v) (h : intW w K = true) (q : ∀ a, K a = true → P (.int (dec a))) : P v := by
  cases r with
  | int a => exact q a h
  | _ => exact no h
theorem boolW_s {K : Bool → Bool} (r : WR w v) (h : boolW w K = true) (q : ∀ a, K a = true → P (.bool a)) : P v := by
  cases r with
  | bool a => exact q a h
  | _ => exact no h
theorem realW_s {K : Nat → Nat → Bool} (r : WR w v) (h : realW w K = true) (q : ∀ a b, K a b = true → P (.real (dec a) (dec b))) : P v := by
  cases r with
  | real a b => exact q a b h
  | _ => exact no h
theorem nonW_s {K : Bool} (r : WR w v) (h : nonW w K = true) (q : K = true → P .none) : P v := by
  cases r with
  | non => exact q h
  | _ => exact no h
theorem tupW_s {K : List W → Bool} (r : WR w v) (h : tupW w K = true) (q : ∀ ws vs, WR (.tup ws) (.tup vs) → K ws = true → P (.tup vs)) : P v := by
  cases r with
  | tup0 => exact q _ _ .tup0 h
  | tup r1 r2 => exact q _ _ (.tup r1 r2) h
  | _ => exact no h
end
theorem WR.at : ∀ {ws : List W} {vs : List V} (i : Nat), WR (.tup ws) (.tup vs) → ∀ {w}, ws[i]? = some w → ∃ v, vs[i]? = some v ∧ WR w v
  | [], _, _, _, _, h => by cases h
  | _ :: _, _, 0, r, _, h => by cases r with | tup r1 r2 => exact ⟨_, rfl, by cases h; exact r1⟩
  | _ :: _, _, i + 1, r, _, h => by cases r with | tup r1 r2 => exact WR.at i r2 h
theorem WR.len : ∀ {ws : List W} {vs : List V}, WR (.tup ws) (.tup vs) → ws.length = vs.length
  | [], _, r => by cases r; rfl
  | _ :: _, _, r => by cases r with | tup r1 r2 => exact congrArg Nat.succ (WR.len r2)
theorem WR.set : ∀ {ws : List W} {vs : List V} (i : Nat) {w v}, WR (.tup ws) (.tup vs) → WR w v → WR (.tup (ws.set i w)) (.tup (vs.set i v))
  | [], _, _, _, _, r, _ => by cases r; exact .tup0
  | _ :: _, _, 0, _, _, r, q => by cases r with | tup r1 r2 => exact .tup q r2
  | _ :: _, _, i + 1, _, _, r, q => by cases r with | tup r1 r2 => exact .tup r1 (WR.set i r2 q)
noncomputable abbrev setW (ρ : List W) : List Nat → List W → List W
  | i :: is, v :: vs => setW (ρ.set i v) is vs
  | _, _ => ρ
theorem WR.setAll : ∀ (is : List Nat) {ws us : List W} {vs xs : List V}, WR (.tup ws) (.tup vs) → WR (.tup us) (.tup xs) → WR (.tup (setW ws is us)) (.tup (Mine.setAll vs is xs))
  | [], _, _, _, _, r, q => by cases q <;> exact r
  | i :: is, _, _, _, _, r, q => by
    cases q with
    | tup0 => exact r
    | tup q1 q2 => exact WR.setAll is (r.set i q1) q2
noncomputable abbrev twoW (a b : W) (K : Nat → Nat → Bool) : Bool := intW a fun a => intW b fun b => K a b
theorem twoW_r {a b : W} {x y : V} {K : Nat → Nat → Bool} {P : V → V → Prop} (ra : WR a x) (rb : WR b y) (h : twoW a b K = true) (q : ∀ a b, K a b = true → P (.int (dec a)) (.int (dec b))) : P x y :=
  intW_s (P := fun x => P x y) ra h fun a h => intW_s (P := fun y => P _ y) rb h fun b h => q a b h
noncomputable abbrev binW (op : Operator) (a b : W) (K : W → Bool) : Bool := match op with
  | .Add => twoW a b fun a b => nadd a b fun c => K (.int c)
  | .Sub => twoW a b fun a b => nsub a b fun c => K (.int c)
  | .Mult => twoW a b fun a b => nmul a b fun c => K (.int c)
  | .FloorDiv => twoW a b fun a b => ndiv a b fun c => K (.int c)
  | .Mod => twoW a b fun a b => nmod a b fun c => K (.int c)
  | .LShift => twoW a b fun a b => nshl a b fun c => K (.int c)
  | .RShift => twoW a b fun a b => nshr a b fun c => K (.int c)
  | .BitAnd => twoW a b fun a b => nand a b fun c => K (.int c)
  | _ => false
noncomputable abbrev cmpW (op : CmpOp) (a b : W) (K : Bool → Bool) : Bool := match op with
  | .Lt => twoW a b fun a b => K (nlt a b)
  | .LtE => twoW a b fun a b => K (nle a b)
  | .Gt => twoW a b fun a b => K (nlt b a)
  | .GtE => twoW a b fun a b => K (nle b a)
  | .Eq => twoW a b fun a b => K (neq a b)
  | .NotEq => twoW a b fun a b => K (!neq a b)
  | .IsNot => nonW b (match a with | .non => K false | .tup _ => K true | .real _ _ => K true | _ => false)
  | _ => false
section
variable {α : Type} {Q : Option α → Prop}
theorem q1 {x : Int} {K' : W → Bool} {K : V → Option α} {f : (Nat → Bool) → Bool} (hK : ∀ w v, WR w v → K' w = true → Q (K v)) (hf : ∀ {k : Nat → Bool}, f k = true → ∃ c, x = dec c ∧ k c = true) (h : f (fun c => K' (.int c)) = true) : Q (K (.int x)) :=
  (hf h).elim fun c h => h.1 ▸ hK _ _ (.int c) h.2
theorem q2 {x : Option Int} {K' : W → Bool} {K : V → Option α} {f : (Nat → Bool) → Bool} (hK : ∀ w v, WR w v → K' w = true → Q (K v)) (hf : ∀ {k : Nat → Bool}, f k = true → ∃ c, x = some (dec c) ∧ k c = true) (h : f (fun c => K' (.int c)) = true) : Q (x.bind fun c => K (.int c)) :=
  (hf h).elim fun c h => h.1 ▸ hK _ _ (.int c) h.2
theorem bin_r {op : Operator} {a b : W} {x y : V} {K' : W → Bool} {K : V → Option α} (ra : WR a x) (rb : WR b y) (hK : ∀ w v, WR w v → K' w = true → Q (K v)) (h : binW op a b K' = true) : Q (binK op x y K) := by
  cases op with
  | Add => exact twoW_r (P := fun x y => Q (binK .Add x y K)) ra rb h fun a b h => q1 hK (nadd_s rfl rfl) h
  | Sub => exact twoW_r (P := fun x y => Q (binK .Sub x y K)) ra rb h fun a b h => q1 hK (nsub_s rfl rfl) h
  | Mult => exact twoW_r (P := fun x y => Q (binK .Mult x y K)) ra rb h fun a b h => q2 hK (nmul_s rfl rfl) h
  | FloorDiv => exact twoW_r (P := fun x y => Q (binK .FloorDiv x y K)) ra rb h fun a b h => q2 hK (ndiv_s rfl rfl) h
  | Mod => exact twoW_r (P := fun x y => Q (binK .Mod x y K)) ra rb h fun a b h => q2 hK (nmod_s rfl rfl) h
  | LShift => exact twoW_r (P := fun x y => Q (binK .LShift x y K)) ra rb h fun a b h => q2 hK (nshl_s rfl rfl) h
  | RShift => exact twoW_r (P := fun x y => Q (binK .RShift x y K)) ra rb h fun a b h => q2 hK (nshr_s rfl rfl) h
  | BitAnd => exact twoW_r (P := fun x y => Q (binK .BitAnd x y K)) ra rb h fun a b h => q1 hK (nand_s rfl rfl) h
  | _ => exact no h
theorem cmp_r {op : CmpOp} {a b : W} {x y : V} {K' : Bool → Bool} {K : Bool → Option α} (ra : WR a x) (rb : WR b y) (hK : ∀ c, K' c = true → Q (K c)) (h : cmpW op a b K' = true) : Q (cmpK op x y K) := by
  cases op with
  | Lt => exact twoW_r (P := fun x y => Q (cmpK .Lt x y K)) ra rb h fun a b h => hK _ (nlt_eq (a := a) (b := b) rfl rfl ▸ h)
  | LtE => exact twoW_r (P := fun x y => Q (cmpK .LtE x y K)) ra rb h fun a b h => hK _ (nle_eq (a := a) (b := b) rfl rfl ▸ h)
  | Gt => exact twoW_r (P := fun x y => Q (cmpK .Gt x y K)) ra rb h fun a b h => hK _ (nlt_eq (a := b) (b := a) rfl rfl ▸ h)
  | GtE => exact twoW_r (P := fun x y => Q (cmpK .GtE x y K)) ra rb h fun a b h => hK _ (nle_eq (a := b) (b := a) rfl rfl ▸ h)
  | Eq => exact twoW_r (P := fun x y => Q (cmpK .Eq x y K)) ra rb h fun a b h => hK _ (neq_eq (a := a) (b := b) rfl rfl ▸ h)
  | NotEq => exact twoW_r (P := fun x y => Q (cmpK .NotEq x y K)) ra rb h fun a b h => hK _ (neq_eq (a := a) (b := b) rfl rfl ▸ h)
  | IsNot =>
    refine nonW_s (P := fun y => Q (cmpK .IsNot x y K)) rb h fun h => ?_
    cases ra with
    | non => exact hK _ h
    | tup0 => exact hK _ h
    | tup _ _ => exact hK _ h
    | real _ _ => exact hK _ h
    | _ => exact no h
  | _ => exact no h
end
end Mine
end
section
namespace Mine
abbrev SemW := List W → (W → Bool) → Bool
structure TbW where
  ns : List (Str × NameKind)
  gs : List (Str × W)
  fs : List (Str × SemW)
  cv : W → Option KF
  lm : List W → Arguments → Expr → Scope → Option KF
  df : List W → Str → Arguments → List Stmt → Scope → Option KF
noncomputable abbrev someB {β : Type} (o : Option β) (k : β → Bool) : Bool := match o with | some x => k x | none => false
noncomputable abbrev nameB (e : Expr) (k : Str → Bool) : Bool := match e with | .Name x _ => k x | _ => false
noncomputable abbrev defB (w : W) (k : Bool) : Bool := match w with | .undef => false | _ => k
noncomputable abbrev nt (b : Bool) : Bool := gs b false true
noncomputable abbrev nmW (T : TbW) (ρ : List W) (x : Str) (K : W → Bool) : Bool := someB (ixL x T.ns 0) fun q => match q.2 with
  | .local => someB ρ[q.1]? fun v => defB v (K v)
  | .cell => someB ρ[q.1]? fun v => defB v (K v)
  | .free => someB ρ[q.1]? fun v => defB v (K v)
  | .globalImplicit => someB (lk? x T.gs) K
  | _ => false
noncomputable abbrev evWN (T : TbW) (ρ : List W) (rec1 : Expr → (W → Bool) → Bool) (recL : List Expr → (List W → Bool) → Bool) (f : Expr) (args : List Expr) (pos : Pos) (K : W → Bool) : Bool := match args with
  | [] => (match f with
    | .Attribute o nm ap => gd (Fast.sEq nm (Str.ofString "bit_length")) (gd (bitsOn o && ap.endLine == pos.line) (rec1 o fun v => intW v fun a => nbits a fun c => K (.int c)))
    | _ => false)
  | e :: es => nameB f fun g => someB (ixL g T.ns 0) fun q => match q.2 with
    | .globalImplicit => someB (lk? g T.fs) fun sem => gd ((e :: es).all noStar) (recL (e :: es) fun vs => sem vs K)
    | .local => gd (es.isEmpty && noStar e) (someB ρ[q.1]? fun v => someB (T.cv v) fun Fn => rec1 e fun a => intW a fun k => Fn k (fun c d => K (.tup [.int c, .int d])) (K .non))
    | _ => false
noncomputable abbrev codK (i : Int) (K : W → Bool) : Bool := match i with | .ofNat n => K (.int (nlit n)) | .negSucc _ => false
mutual
noncomputable abbrev evWE (T : TbW) (ρ : List W) : Nat → Expr → (W → Bool) → Bool
  | 0, _, _ => false
  | n + 1, e, K => match e with
    | .Constant c _ _ => (match c with | .int i => codK i K | .bool b => K (.bool b) | .none => K .non | .str y => K (.str y) | _ => false)
    | .Name x _ => nmW T ρ x K
    | .BinOp l op r _ => evWE T ρ n l fun a => evWE T ρ n r fun b => binW op a b K
    | .UnaryOp op e _ => (match op with
      | .Not => evWE T ρ n e fun v => boolW v fun b => K (.bool (nt b))
      | .USub => evWE T ρ n e fun v => intW v fun a => gd (Nat.ble a (Nat.add OF OF)) (K (.int (Nat.sub (Nat.add OF OF) a)))
      | _ => false)
    | .Compare l ops rs _ => (match ops, rs with
      | [op], [r] => gs (behindInMarks op r) false (evWE T ρ n l fun a => evWE T ρ n r fun b => cmpW op a b fun c => K (.bool c))
      | _, _ => false)
    | .BoolOp op es _ => (match op, es with
      | .And, [x, y] => evWE T ρ n x fun v => boolW v fun b => gs b (evWE T ρ n y K) (K (.bool false))
      | _, _ => false)
    | .IfExp t b o _ => evWT T ρ n t fun c => gs c (evWE T ρ n b K) (evWE T ρ n o K)
    | .Tuple es _ _ => evWL T ρ n es fun vs => gd (Nat.ble vs.length 1000) (K (.tup vs))
    | .List es _ => evWL T ρ n es fun vs => gd (Nat.ble vs.length 1000) (K (.lst vs))
    | .Attribute o nm _ => nameB o fun _ => gs (Fast.sEq nm (Str.ofString "mantissa")) (evWE T ρ n o fun v => realW v fun a _ => K (.int a))
        (gd (Fast.sEq nm (Str.ofString "exponent")) (evWE T ρ n o fun v => realW v fun _ b => K (.int b)))
    | .Subscript o i _ => (match i with
      | .Constant c _ _ => (match c with | .int kk => gd (small100 kk) (evWE T ρ n o fun v => tupW v fun vs => someB vs[kk.toNat]? K) | _ => false)
      | _ => false)
    | .Lambda params body scope _ => someB (T.lm ρ params body scope) fun Fn => K (.fn Fn)
    | .Call f args kws pos => (match kws with
      | [] => evWN T ρ (evWE T ρ n) (evWL T ρ n) f args pos K
      | _ => false)
    | _ => false
noncomputable abbrev evWT (T : TbW) (ρ : List W) : Nat → Expr → (Bool → Bool) → Bool
  | 0, _, _ => false
  | n + 1, e, K => match e with
    | .UnaryOp op x _ => (match op with | .Not => evWT T ρ n x fun b => K (nt b) | _ => false)
    | .BoolOp op es _ => evWA T ρ n op es K
    | .Compare l ops rs _ => (match ops, rs with
      | [op], [r] => gs (behindInMarks op r) false (evWE T ρ n l fun a => evWE T ρ n r fun b => cmpW op a b K)
      | _, _ => false)
    | .Name _ _ => evWE T ρ n e fun v => boolW v K
    | .Call _ _ _ _ => evWE T ρ n e fun v => boolW v K
    | .Constant _ _ _ => evWE T ρ n e fun v => boolW v K
    | _ => false
noncomputable abbrev evWA (T : TbW) (ρ : List W) : Nat → BoolOp → List Expr → (Bool → Bool) → Bool
  | 0, _, _, _ => false
  | n + 1, op, es, K => match es with
    | [] => (match op with | .And => K true | .Or => K false)
    | x :: es => (match op with
      | .And => evWT T ρ n x fun b => gs b (evWA T ρ n .And es K) (K false)
      | .Or => evWT T ρ n x fun b => gs b (K true) (evWA T ρ n .Or es K))
noncomputable abbrev evWL (T : TbW) (ρ : List W) : Nat → List Expr → (List W → Bool) → Bool
  | 0, _, _ => false
  | n + 1, es, K => match es with
    | [] => K []
    | e :: es => evWE T ρ n e fun v => evWL T ρ n es fun vs => K (v :: vs)
end
section
variable {α : Type} {Q : Option α → Prop}
noncomputable def SemR (Q : Option α → Prop) (f : SemW) (g : Sem' α) : Prop := ∀ ws vs K' K, WR (.tup ws) (.tup vs) → (∀ w v, WR w v → K' w = true → Q (K v)) → f ws K' = true → Q (g vs K)
noncomputable def LR {A B : Type} (R : A → B → Prop) : List (Str × A) → List (Str × B) → Prop
  | [], _ => True
  | _ :: _, [] => False
  | a :: l, b :: m => a.1 = b.1 ∧ R a.2 b.2 ∧ LR R l m
theorem lr_at {A B : Type} {R : A → B → Prop} {x : Str} : ∀ {l : List (Str × A)} {m : List (Str × B)} {a : A}, LR R l m → lk? x l = some a → ∃ b, lk? x m = some b ∧ R a b
  | [], _, _, _, h => nope h
  | _ :: _, [], _, r, _ => r.elim
  | a :: l, b :: m, _, r, h => by
    by_cases e : Fast.sEq x a.1 = true
    · rw [lk?, if_pos e] at h
      cases h
      exact ⟨b.2, by rw [lk?, ← r.1, if_pos e], r.2.1⟩
    · rw [lk?, if_neg e] at h
      obtain ⟨c, h1, h2⟩ := lr_at r.2.2 h
      exact ⟨c, by rw [lk?, ← r.1, if_neg e]; exact h1, h2⟩
structure TbR (Q : Option α → Prop) (S : TbW) (T : Tb α) : Prop where
  ns : S.ns = T.ns
  gs : LR WR S.gs T.gs
  fs : LR (SemR Q) S.fs T.fs
  cv : ∀ {w v k}, WR w v → S.cv w = some k → ∃ Fn, T.cv v = some Fn ∧ FnR k Fn
  lm : ∀ {ws vs p b s k}, WR (.tup ws) (.tup vs) → S.lm ws p b s = some k → ∃ Fn, T.lm vs p b s = some Fn ∧ FnR k Fn
  df : ∀ {ws vs x p b s k}, WR (.tup ws) (.tup vs) → S.df ws x p b s = some k → ∃ Fn, T.df vs x p b s = some Fn ∧ FnR k Fn
variable {S : TbW} {T : Tb α} {ρ' : List W} {ρ : List V}
theorem someB_s {β : Type} {o : Option β} {k : β → Bool} {P : Prop} (h : someB o k = true) (q : ∀ x, o = some x → k x = true → P) : P := by
  cases o with
  | none => exact no h
  | some x => exact q x rfl h
theorem sK {β : Type} {o : Option β} {x : β} {k : β → Option α} (h : o = some x) (q : Q (k x)) : Q (someK o k) := by rw [h]; exact q
theorem ckQ {c x : Bool} {X : Option α} (h : ck c x = true) (q : x = true → Q X) : Q (if c = true then X else none) := by
  rw [if_pos (ck_s h).1]; exact q (ck_s h).2
theorem selQ {c x y : Bool} {X Y : Option α} (h : sel c x y = true) (q : x = true → Q X) (q' : y = true → Q Y) : Q (if c = true then X else Y) := by
  cases c
  · exact q' h
  · exact q h
theorem nifQ {c x : Bool} {X : Option α} (h : sel c false x = true) (q : x = true → Q X) : Q (if c = true then none else X) := selQ h (fun h => no h) q
theorem lenQ {ws : List W} {vs : List V} {x : Bool} {X : Option α} (r : WR (.tup ws) (.tup vs)) (h : ck (Nat.ble ws.length 1000) x = true) (q : x = true → Q X) : Q (if vs.length ≤ 1000 then X else none) := by
  rw [if_pos (r.len ▸ (ckb h).1)]; exact q (ckb h).2
theorem defQ {w : W} {v : V} {K' : Bool} {K : Option α} (r : WR w v) (h : defB w K' = true) (q : K' = true → Q K) : Q (defK v K) := by
  cases r <;> first | exact no h | exact q h
theorem nm_r (O : TbR Q S T) (R : WR (.tup ρ') (.tup ρ)) {x : Str} {K' : W → Bool} {K : V → Option α} (hK : ∀ w v, WR w v → K' w = true → Q (K v)) (h : nmW S ρ' x K' = true) : Q (nmK T ρ x K) := by
  refine someB_s h fun q hq h => sK (Q := Q) (by rw [← O.ns]; exact hq) ?_
  obtain ⟨i, k⟩ := q
  have loc : (someB ρ'[i]? fun v => defB v (K' v)) = true → Q (someK ρ[i]? fun v => defK v (K v)) := fun h => someB_s h fun w hw h => (R.at i hw).elim fun v hv => sK (Q := Q) hv.1 (defQ hv.2 h (hK _ _ hv.2))
  cases k with
  | «local» => exact loc h
  | cell => exact loc h
  | free => exact loc h
  | globalImplicit => exact someB_s h fun w hw h => (lr_at O.gs hw).elim fun v hv => sK (Q := Q) hv.1 (hK _ _ hv.2 h)
  | _ => exact no h
theorem fn_r {k : KF} {Fn : Int → Option (Option (Int × Int))} {a : Nat} {K' : W → Bool} {K : V → Option α} (f : FnR k Fn) (hK : ∀ w v, WR w v → K' w = true → Q (K v)) (h : k a (fun c d => K' (.tup [.int c, .int d])) (K' .non) = true) : Q ((Fn (dec a)).bind fun b => bvK b K) := by
  obtain ⟨r, e, o⟩ := f h
  rw [e]
  cases r with
  | none => exact hK _ _ .non o
  | some p =>
    obtain ⟨c, d, e1, e2, h⟩ := o
    show Q (K (.tup [.int p.1, .int p.2]))
    rw [show p.1 = _ from e1, show p.2 = _ from e2]
    exact hK _ _ (.tup (.int c) (.tup (.int d) .tup0)) h
theorem nameB_s {e : Expr} {k : Str → Bool} {P : Prop} (h : nameB e k = true) (q : ∀ x p, e = .Name x p → k x = true → P) : P := by
  cases e <;> first | exact q _ _ rfl h | exact no h
structure SR (Q : Option α → Prop) (S : TbW) (T : Tb α) (ρ' : List W) (ρ : List V) (n : Nat) : Prop where
  E : ∀ e K' K, (∀ w v, WR w v → K' w = true → Q (K v)) → evWE S ρ' n e K' = true → Q (evE T ρ n e K)
  TT : ∀ e K' K, (∀ c, K' c = true → Q (K c)) → evWT S ρ' n e K' = true → Q (evT T ρ n e K)
  A : ∀ op es K' K, (∀ c, K' c = true → Q (K c)) → evWA S ρ' n op es K' = true → Q (evA T ρ n op es K)
  L : ∀ es K' K, (∀ ws vs, WR (.tup ws) (.tup vs) → K' ws = true → Q (K vs)) → evWL S ρ' n es K' = true → Q (evL T ρ n es K)
theorem call_r (O : TbR Q S T) (R : WR (.tup ρ') (.tup ρ)) {n : Nat} (I : SR Q S T ρ' ρ n) {f : Expr} {args : List Expr} {pos : Pos} {K' : W → Bool} {K : V → Option α} (hK : ∀ w v, WR w v → K' w = true → Q (K v)) (h : evWN S ρ' (evWE S ρ' n) (evWL S ρ' n) f args pos K' = true) :
    Q (evN T ρ (evE T ρ n) (evL T ρ n) f args pos K) := by
  cases args with
  | nil => cases f with
    | Attribute o nm ap => exact ckQ h fun h => ckQ h fun h => I.E o _ _ (fun w v r h => intW_s (P := fun v => Q (intK v _)) r h fun a h => q1 hK (nbits_s rfl) h) h
    | _ => exact no h
  | cons e es =>
    refine nameB_s h fun g p e1 h => ?_
    subst e1
    refine someB_s h fun q hq h => sK (Q := Q) (by rw [← O.ns]; exact hq) ?_
    obtain ⟨i, k⟩ := q
    cases k with
    | globalImplicit => exact someB_s h fun sem hs h => (lr_at O.fs hs).elim fun s2 h2 => sK (Q := Q) h2.1 (ckQ h fun h => I.L _ _ _ (fun ws vs r h => h2.2 ws vs _ _ r hK h) h)
    | «local» => exact ckQ h fun h => someB_s h fun w hw h => (R.at i hw).elim fun v hv => sK (Q := Q) hv.1 (someB_s h fun kf hk h => (O.cv hv.2 hk).elim fun Fn hF => sK (Q := Q) hF.1 (I.E e _ _ (fun w v r h => intW_s (P := fun v => Q (intK v _)) r h fun a h => fn_r hF.2 hK h) h))
    | _ => exact no h
theorem cod_r {i : Int} {K' : W → Bool} {K : V → Option α} (hK : ∀ w v, WR w v → K' w = true → Q (K v)) (h : codK i K' = true) : Q (K (.int i)) := by
  cases i with
  | ofNat n => exact (show dec (nlit n) = Int.ofNat n from dec_lit n) ▸ hK _ _ (.int (nlit n)) h
  | negSucc n => exact no h
theorem neg_r {a : Nat} {K' : W → Bool} {K : V → Option α} (hK : ∀ w v, WR w v → K' w = true → Q (K v)) (h : ck (Nat.ble a (Nat.add OF OF)) (K' (.int (Nat.sub (Nat.add OF OF) a))) = true) : Q (K (.int (-dec a))) := by
  obtain ⟨h1, h⟩ := ckb h
  have e : -dec a = dec (Nat.sub (Nat.add OF OF) a) := by unfold dec; simp only [Nat.add_eq, Nat.sub_eq] at h1 ⊢; omega
  rw [e]; exact hK _ _ (.int _) h
theorem item_r {ws : List W} {vs : List V} (r : WR (.tup ws) (.tup vs)) {i : Nat} {K' : W → Bool} {K : V → Option α} (hK : ∀ w v, WR w v → K' w = true → Q (K v)) (h : someB ws[i]? K' = true) : Q (someK vs[i]? K) :=
  someB_s h fun w hw h => (r.at i hw).elim fun v hv => sK (Q := Q) hv.1 (hK _ _ hv.2 h)
theorem evE_r (O : TbR Q S T) (R : WR (.tup ρ') (.tup ρ)) {n : Nat} (I : SR Q S T ρ' ρ n) (e : Expr) (K' : W → Bool) (K : V → Option α) (hK : ∀ w v, WR w v → K' w = true → Q (K v)) (h : evWE S ρ' (n + 1) e K' = true) : Q (evE T ρ (n + 1) e K) := by
  cases e with
  | Constant c k p => cases c with
    | int i => exact cod_r hK h
    | bool b => exact hK _ _ (.bool b) h
    | none => exact hK _ _ .non h
    | str y => exact hK _ _ (.str y) h
    | _ => exact no h
  | Name x p => exact nm_r O R hK h
  | BinOp l op r p => exact I.E l _ _ (fun _ _ ra h => I.E r _ _ (fun _ _ rb h => bin_r ra rb hK h) h) h
  | UnaryOp op x p => cases op with
    | Not => exact I.E x _ _ (fun w v r h => boolW_s (P := fun v => Q (boolK v _)) r h fun b h => by
        cases b <;> exact hK _ _ (.bool _) h) h
    | USub => exact I.E x _ _ (fun w v r h => intW_s (P := fun v => Q (intK v _)) r h fun b h => neg_r hK h) h
    | _ => exact no h
  | Compare l ops rs p =>
    rcases ops with _ | ⟨op, _ | ⟨_, _⟩⟩ <;> first | exact no h | skip
    rcases rs with _ | ⟨r', _ | ⟨_, _⟩⟩ <;> first | exact no h | skip
    exact nifQ h fun h => I.E l _ _ (fun _ _ ra h => I.E r' _ _ (fun _ _ rb h => cmp_r ra rb (fun c h => hK _ _ (.bool c) h) h) h) h
  | BoolOp op es p => cases op with
    | And => rcases es with _ | ⟨x, _ | ⟨y, _ | ⟨z, es⟩⟩⟩ <;> first | exact no h | exact I.E x _ _ (fun w v r h => boolW_s (P := fun v => Q (boolK v _)) r h fun b h => selQ h (I.E y _ _ hK) (hK _ _ (.bool false))) h
    | _ => exact no h
  | IfExp t b o p => exact I.TT t _ _ (fun c h => selQ h (I.E b _ _ hK) (I.E o _ _ hK)) h
  | Tuple es k p => exact I.L es _ _ (fun ws vs r h => lenQ r h (hK _ _ r)) h
  | List es p => exact I.L es _ _ (fun ws vs r h => lenQ r h (hK _ _ (.lst r))) h
  | Attribute o nm p =>
    refine nameB_s h fun x q e h => ?_
    subst e
    exact selQ h (fun h => I.E _ _ _ (fun w v r h => realW_s (P := fun v => Q (realK v _)) r h fun a b h => hK _ _ (.int a) h) h) fun h => ckQ h fun h => I.E _ _ _ (fun w v r h => realW_s (P := fun v => Q (realK v _)) r h fun a b h => hK _ _ (.int b) h) h
  | Subscript o i p => cases i with
    | Constant c k q => cases c with
      | int kk => exact ckQ h fun h => I.E o _ _ (fun w v r h => tupW_s (P := fun v => Q (tupK v _)) r h fun ws vs r h => item_r r hK h) h
      | _ => exact no h
    | _ => exact no h
  | Lambda ps b s p => exact someB_s h fun k hk h => (O.lm R hk).elim fun Fn hF => sK (Q := Q) hF.1 (hK _ _ (.fn hF.2) h)
  | Call f args kws p => cases kws with
    | nil => exact call_r O R I hK h
    | cons _ _ => exact no h
  | _ => exact no h
theorem evT_r {n : Nat} (I : SR Q S T ρ' ρ n) (e : Expr) (K' : Bool → Bool) (K : Bool → Option α) (hK : ∀ c, K' c = true → Q (K c)) (h : evWT S ρ' (n + 1) e K' = true) : Q (evT T ρ (n + 1) e K) := by
  have val : ∀ e : Expr, evWE S ρ' n e (fun v => boolW v K') = true → Q (evE T ρ n e fun v => boolK v K) := fun e h => I.E e _ _ (fun w v r h => boolW_s (P := fun v => Q (boolK v _)) r h hK) h
  cases e with
  | UnaryOp op x p => cases op with
    | Not => exact I.TT x _ _ (fun b h => by cases b <;> exact hK _ h) h
    | _ => exact no h
  | BoolOp op es p => exact I.A op es _ _ hK h
  | Compare l ops rs p =>
    rcases ops with _ | ⟨op, _ | ⟨_, _⟩⟩ <;> first | exact no h | skip
    rcases rs with _ | ⟨r', _ | ⟨_, _⟩⟩ <;> first | exact no h | skip
    exact nifQ h fun h => I.E l _ _ (fun _ _ ra h => I.E r' _ _ (fun _ _ rb h => cmp_r ra rb hK h) h) h
  | Name x p => exact val _ h
  | Call f a k p => exact val _ h
  | Constant c k p => exact val _ h
  | _ => exact no h
theorem evA_r {n : Nat} (I : SR Q S T ρ' ρ n) (op : BoolOp) (es : List Expr) (K' : Bool → Bool) (K : Bool → Option α) (hK : ∀ c, K' c = true → Q (K c)) (h : evWA S ρ' (n + 1) op es K' = true) : Q (evA T ρ (n + 1) op es K) := by
  cases es with
  | nil => cases op <;> exact hK _ h
  | cons x es => cases op with
    | And => exact I.TT x _ _ (fun b h => selQ h (I.A _ es _ _ hK) (hK _)) h
    | Or => exact I.TT x _ _ (fun b h => selQ h (hK _) (I.A _ es _ _ hK)) h
theorem evL_r {n : Nat} (I : SR Q S T ρ' ρ n) (es : List Expr) (K' : List W → Bool) (K : List V → Option α) (hK : ∀ ws vs, WR (.tup ws) (.tup vs) → K' ws = true → Q (K vs)) (h : evWL S ρ' (n + 1) es K' = true) : Q (evL T ρ (n + 1) es K) := by
  cases es with
  | nil => exact hK _ _ .tup0 h
  | cons e es => exact I.E e _ _ (fun w v r h => I.L es _ _ (fun ws vs r' h => hK _ _ (.tup r r') h) h) h
theorem snr (O : TbR Q S T) (R : WR (.tup ρ') (.tup ρ)) : ∀ n, SR Q S T ρ' ρ n
  | 0 => ⟨fun _ _ _ _ h => no h, fun _ _ _ _ h => no h, fun _ _ _ _ _ h => no h, fun _ _ _ _ h => no h⟩
  | n + 1 => ⟨evE_r O R (snr O R n), evT_r (snr O R n), evA_r (snr O R n), evL_r (snr O R n)⟩
end
end Mine
end
section
namespace Mine
noncomputable abbrev ixW (S : TbW) (fz : Bool) (e : Expr) (k : Nat → Bool) : Bool := nameB e fun x => someB (ixL x S.ns 0) fun q => gd (stK fz q.2) (k q.1)
noncomputable abbrev ixsW (S : TbW) (fz : Bool) : List Expr → (List Nat → Bool) → Bool
  | [], k => k []
  | e :: es, k => ixW S fz e fun i => ixsW S fz es fun is => k (i :: is)
noncomputable abbrev nilB {β : Type} (l : List β) (k : Bool) : Bool := match l with | [] => k | _ => false
noncomputable abbrev isNoneB {β : Type} (l : Option β) (k : Bool) : Bool := match l with | none => k | _ => false
noncomputable abbrev TbW.off (S : TbW) : TbW := { S with lm := fun _ _ _ _ => none }
noncomputable abbrev ixW3 (S : TbW) (fz : Bool) (es : List Expr) (k2 : Nat → Nat → Bool) (k3 : Nat → Nat → Nat → Bool) : Bool := match es with
  | [] => false
  | a :: es => (match es with
    | [] => false
    | b :: es => (match es with
      | [] => ixW S fz a fun i => ixW S fz b fun j => gs (Nat.beq i j) false (k2 i j)
      | c :: es => nilB es (ixW S fz a fun i => ixW S fz b fun j => ixW S fz c fun l => gs (Nat.beq i j || Nat.beq i l || Nat.beq j l) false (k3 i j l))))
noncomputable abbrev valW (S : TbW) (ρ : List W) (n : Nat) (value : Expr) (N : List W → Bool) (is : List Nat) : Bool := evWE S.off ρ n value fun v => tupW v fun vs => gd (Nat.beq vs.length is.length) (N (setW ρ is vs))
noncomputable abbrev ev1W (S : TbW) (n : Nat) (fz : Bool) (recS : List W → List Stmt → (List W → Bool) → Bool) (ρ : List W) (st : Stmt) (N D : List W → Bool) (R : W → Bool) : Bool := match st with
  | .Return e _ => someB e fun e => evWE S ρ n e R
  | .If t b o _ => evWT S.off ρ n t fun c => gs c (recS ρ b N) (recS ρ o N)
  | .Expr e _ => gd (noComp e) (evWE S.off ρ n e fun v => nonW v (N ρ))
  | .FunctionDef name params body decs ret tps scope doc qn _ => nilB decs (isNoneB ret (nilB tps (isNoneB doc (gd (Fast.sEq qn name) (someB (ixL name S.ns 0) fun q => (match q.2 with
      | .local => someB (S.df ρ name params body scope) fun Fn => D (ρ.set q.1 (.fn Fn))
      | _ => false))))))
  | .Assign ts value _ => gd (noComp value) (match ts with
      | [] => false
      | t :: ts' => nilB ts' (match t with
          | .Name x p => ixW S fz (.Name x p) fun i => evWE S.off ρ n value fun v => N (ρ.set i v)
          | .Tuple es _ _ => gs (Nat.ble 4 es.length) (ixsW S fz es fun is => valW S ρ n value N is) (gs (constTup value) false (ixW3 S fz es (fun i j => valW S ρ n value N [i, j]) fun i j l => valW S ρ n value N [i, j, l]))
          | _ => false))
  | _ => false
noncomputable abbrev evWS (S : TbW) (R : W → Bool) : Nat → Bool → List W → List Stmt → (List W → Bool) → Bool
  | 0, _, _, _, _ => false
  | n + 1, fz, ρ, sts, N => match sts with
    | [] => N ρ
    | st :: sts => ev1W S n fz (fun ρ sts N => evWS S R n fz ρ sts N) ρ st (fun ρ => evWS S R n fz ρ sts N) (fun ρ => evWS S R n true ρ sts fun _ => false) R
section
variable {α : Type} {Q : Option α → Prop} {S : TbW} {T : Tb α} {ρ' : List W} {ρ : List V}
theorem TbR.off (O : TbR Q S T) : TbR Q S.off T.off := ⟨O.ns, O.gs, O.fs, O.cv, fun _ h => nope h, O.df⟩
theorem nilQ {β : Type} {l : List β} {x : Bool} {X : Option α} (h : nilB l x = true) (q : x = true → Q X) : Q (nilK l X) := by
  cases l with
  | nil => exact q h
  | cons _ _ => exact no h
theorem isNoneQ {β : Type} {l : Option β} {x : Bool} {X : Option α} (h : isNoneB l x = true) (q : x = true → Q X) : Q (isNoneK l X) := by
  cases l with
  | none => exact q h
  | some _ => exact no h
theorem ix_r (O : TbR Q S T) {fz : Bool} {e : Expr} {k' : Nat → Bool} {k : Nat → Option α} (h : ixW S fz e k' = true) (q : ∀ i, k' i = true → Q (k i)) : Q (ixK T fz e k) := by
  refine nameB_s h fun x p e1 h => ?_
  subst e1
  exact someB_s h fun p hp h => sK (Q := Q) (by rw [← O.ns]; exact hp) (ckQ h (q _))
theorem ixs_r (O : TbR Q S T) {fz : Bool} : ∀ {es : List Expr} {k' : List Nat → Bool} {k : List Nat → Option α}, ixsW S fz es k' = true → (∀ is, is.length = es.length → k' is = true → Q (k is)) → Q (ixsK T fz es k)
  | [], _, _, h, q => q _ rfl h
  | e :: es, k', k, h, q => ix_r O (k := fun i => ixsK T fz es fun is => k (i :: is)) h fun i h => ixs_r O h fun is e h => q _ (congrArg Nat.succ e) h
theorem len_r {ws : List W} {vs : List V} {m : Nat} {x : Bool} {X : Option α} (r : WR (.tup ws) (.tup vs)) (h : ck (Nat.beq ws.length m) x = true) (q : x = true → Q X) : Q (if Nat.beq vs.length m = true then X else none) := by
  rw [← r.len]; exact ckQ h q
variable {recS' : List W → List Stmt → (List W → Bool) → Bool} {recS : List V → List Stmt → (List V → Option α) → Option α} {N' D' : List W → Bool} {N D D2 : List V → Option α} {R' : W → Bool} {R : V → Option α} {n : Nat} {fz : Bool}
theorem ix3_r (O : TbR Q S T) : ∀ {es : List Expr} {k2' : Nat → Nat → Bool} {k3' : Nat → Nat → Nat → Bool} {k2 : Nat → Nat → Option α} {k3 : Nat → Nat → Nat → Option α}, ixW3 S fz es k2' k3' = true → (∀ i j, k2' i j = true → Q (k2 i j)) → (∀ i j l, k3' i j l = true → Q (k3 i j l)) → Q (ixT3 T fz es k2 k3)
  | [], _, _, _, _, h, _, _ => no h
  | [_], _, _, _, _, h, _, _ => no h
  | [a, b], k2', _, k2, k3, h, q, _ => ix_r O (k := fun i => ixK T fz b fun j => if Nat.beq i j = true then none else k2 i j) (show ixW S fz a (fun i => ixW S fz b fun j => sel (Nat.beq i j) false (k2' i j)) = true from h) fun i h => ix_r O (k := fun j => if Nat.beq i j = true then none else k2 i j) h fun j h => nifQ h (q i j)
  | [a, b, c], _, k3', k2, k3, h, _, q => ix_r O (k := fun i => ixK T fz b fun j => ixK T fz c fun l => if (Nat.beq i j || Nat.beq i l || Nat.beq j l) = true then none else k3 i j l) (show ixW S fz a (fun i => ixW S fz b fun j => ixW S fz c fun l => sel (Nat.beq i j || Nat.beq i l || Nat.beq j l) false (k3' i j l)) = true from h) fun i h => ix_r O (k := fun j => ixK T fz c fun l => if (Nat.beq i j || Nat.beq i l || Nat.beq j l) = true then none else k3 i j l) h fun j h =>
      ix_r O (k := fun l => if (Nat.beq i j || Nat.beq i l || Nat.beq j l) = true then none else k3 i j l) h fun l h => nifQ h (q i j l)
  | _ :: _ :: _ :: _ :: _, _, _, _, _, h, _, _ => no h
theorem val_r (O : TbR Q S T) (G : WR (.tup ρ') (.tup ρ)) (hN : ∀ ws vs, WR (.tup ws) (.tup vs) → N' ws = true → Q (N vs)) {value : Expr} (is : List Nat) (h : valW S ρ' n value N' is = true) :
    Q (evE T.off ρ n value fun v => tupK v fun vs => if Nat.beq vs.length is.length = true then N (setAll ρ is vs) else none) :=
  (snr O.off G n).E value _ _ (fun w v r h => tupW_s (P := fun v => Q (tupK v _)) r h fun ws vs r h => len_r r h (hN _ _ (G.setAll is r))) h
theorem ev1_r (O : TbR Q S T) (G : WR (.tup ρ') (.tup ρ)) (hrec : ∀ {ws vs sts} {M' : List W → Bool} {M : List V → Option α}, WR (.tup ws) (.tup vs) → (∀ ws vs, WR (.tup ws) (.tup vs) → M' ws = true → Q (M vs)) → recS' ws sts M' = true → Q (recS vs sts M)) (hN : ∀ ws vs, WR (.tup ws) (.tup vs) → N' ws = true → Q (N vs))
    (hD : ∀ ws vs, WR (.tup ws) (.tup vs) → D' ws = true → Q (D vs)) (hR : ∀ w v, WR w v → R' w = true → Q (R v)) {st : Stmt} (h : ev1W S n fz recS' ρ' st N' D' R' = true) : Q (ev1 T n fz recS ρ st N D R) := by
  cases st with
  | Return e p => cases e with
    | none => exact no h
    | some e => exact (snr O G n).E e _ _ hR h
  | If t b o p => exact (snr O.off G n).TT t _ _ (fun c h => selQ h (hrec G hN) (hrec G hN)) h
  | Expr e p => exact ckQ h fun h => (snr O.off G n).E e _ _ (fun w v r h => nonW_s (P := fun v => Q (noneK v _)) r h (hN _ _ G)) h
  | FunctionDef name ps b decs ret tps scope doc qn p =>
    exact nilQ h fun h => isNoneQ h fun h => nilQ h fun h => isNoneQ h fun h => ckQ h fun h => someB_s h fun q hq h => sK (Q := Q) (by rw [← O.ns]; exact hq) (by
      obtain ⟨i, k⟩ := q
      cases k with
      | «local» => exact someB_s h fun kf hk h => (O.df G hk).elim fun Fn hF => sK (Q := Q) hF.1 (hD _ _ (G.set i (.fn hF.2)) h)
      | _ => exact no h)
  | Assign ts value p =>
    refine ckQ h fun h => ?_
    cases ts with
    | nil => exact no h
    | cons t ts => cases ts with
      | cons _ _ => exact no h
      | nil =>
        refine (show Q (nilK ([] : List Expr) _) from ?_ : Q (if Nat.beq ([] : List Expr).length 1 = true then _ else _))
        refine (show Q _ from ?_ : Q (nilK ([] : List Expr) _))
        cases t with
        | Name x p => exact ix_r O (k := fun i => evE T.off ρ n value fun v => N (ρ.set i v)) (show ixW S fz (.Name x p) (fun i => evWE S.off ρ' n value fun v => N' (ρ'.set i v)) = true from h) fun i h => (snr O.off G n).E value _ _ (fun w v r h => hN _ _ (G.set i r) h) h
        | Tuple es k p => exact selQ h (fun h => ixs_r O h fun is _ h => val_r O G hN is h) fun h => nifQ h fun h => ix3_r O h (fun i j h => val_r O G hN [i, j] h) fun i j l h => val_r O G hN [i, j, l] h
        | _ => exact no h
  | _ => exact no h
theorem evS_r (O : TbR Q S T) (hR : ∀ w v, WR w v → R' w = true → Q (R v)) : ∀ (n : Nat) (fz : Bool) {ws : List W} {vs : List V} {sts : List Stmt} {N' : List W → Bool} {N : List V → Option α}, WR (.tup ws) (.tup vs) → (∀ ws vs, WR (.tup ws) (.tup vs) → N' ws = true → Q (N vs)) → evWS S R' n fz ws sts N' = true → Q (evS T R n fz vs sts N)
  | 0, _, _, _, _, _, _, _, _, h => no h
  | n + 1, fz, _, _, sts, N', N, G, hN, h => by
    cases sts with
    | nil => exact hN _ _ G h
    | cons st sts => exact ev1_r O G (recS := fun ρ sts N => evS T R n fz ρ sts N) (fun {_ _ _ _ _} G hM h => evS_r O hR n fz G hM h) (fun _ _ G h => evS_r O hR n fz G hN h) (fun _ _ G h => evS_r O hR n true G (fun _ _ _ h => no h) h) hR h
end
end Mine
end
section
namespace Mine
noncomputable abbrev aW {A : Type} (f : W → (A → Bool) → Bool) (k : A → List W → Bool) (ws : List W) : Bool := match ws with | [] => false | w :: ws => f w fun a => k a ws
noncomputable abbrev pairW (w : W) (K : Nat × Nat → Bool) : Bool := tupW w fun ws => match ws with
  | [] => false
  | a :: ws => (match ws with
    | [] => false
    | b :: ws => nilB ws (twoW a b fun a b => K (a, b)))
theorem WR.app : ∀ {ws : List W} {vs : List V} {us : List W} {xs : List V}, WR (.tup ws) (.tup vs) → WR (.tup us) (.tup xs) → WR (.tup (ws ++ us)) (.tup (vs ++ xs))
  | [], _, _, _, r, q => by cases r; exact q
  | _ :: _, _, _, _, r, q => by cases r with | tup r1 r2 => exact .tup r1 (WR.app r2 q)
theorem WR.rep : ∀ m, WR (.tup (List.replicate m .undef)) (.tup (List.replicate m .undef))
  | 0 => .tup0
  | m + 1 => .tup .undef (WR.rep m)
structure DW (A' A : Type) where
  rel : A' → A
  v : Dc A
  enc : A' → List W
  er : ∀ a, WR (.tup (enc a)) (.tup (v.enc (rel a)))
  dec : (A' → List W → Bool) → List W → Bool
  ok : ∀ {α : Type} {Q : Option α → Prop} {k' : A' → List W → Bool} {k : A → List V → Option α} {ws : List W} {vs : List V}, WR (.tup ws) (.tup vs) → (∀ a ws vs, WR (.tup ws) (.tup vs) → k' a ws = true → Q (k (rel a) vs)) → dec k' ws = true → Q (v.dec k vs)
noncomputable abbrev vK {α : Type} (g : V → List V → Option α) (vs : List V) : Option α := match vs with | [] => none | v :: vs => g v vs
theorem aW_s {α A : Type} {Q : Option α → Prop} {f : W → (A → Bool) → Bool} {k' : A → List W → Bool} {g : V → List V → Option α} {ws : List W} {vs : List V} (r : WR (.tup ws) (.tup vs)) (h : aW f k' ws = true) (q : ∀ w v ws vs, WR w v → WR (.tup ws) (.tup vs) → f w (fun a => k' a ws) = true → Q (g v vs)) : Q (vK g vs) := by
  cases r with
  | tup0 => exact no h
  | tup r1 r2 => exact q _ _ _ _ r1 r2 h
noncomputable abbrev eI : DW Nat Int := ⟨dec, dI, fun a => [.int a], fun a => .tup (.int a) .tup0, aW intW, fun {α Q k' k ws vs} r q h => aW_s (g := fun v vs => intK v fun a => k a vs) r h fun w v ws vs r1 r2 h => intW_s (P := fun v => Q (intK v fun a => k a vs)) r1 h fun a h => q a ws vs r2 h⟩
noncomputable abbrev eB : DW Bool Bool := ⟨id, dB, fun a => [.bool a], fun a => .tup (.bool a) .tup0, aW boolW, fun {α Q k' k ws vs} r q h => aW_s (g := fun v vs => boolK v fun a => k a vs) r h fun w v ws vs r1 r2 h => boolW_s (P := fun v => Q (boolK v fun a => k a vs)) r1 h fun a h => q a ws vs r2 h⟩
noncomputable abbrev strW (w : W) (K : Str → Bool) : Bool := match w with | .str a => K a | _ => false
noncomputable abbrev eS : DW Str Str := ⟨id, dS, fun a => [.str a], fun a => .tup (.str a) .tup0, aW strW, fun {α Q k' k ws vs} r q h => aW_s (g := fun v vs => strK v fun a => k a vs) r h fun w v ws vs r1 r2 h => by
  cases r1 with
  | str a => exact q a ws vs r2 h
  | _ => exact no h⟩
noncomputable def rel2 (a : Nat × Nat) : Int × Int := (dec a.1, dec a.2)
noncomputable def rel3 (a : Nat × Nat × Nat) : Int × Int × Int := (dec a.1, dec a.2.1, dec a.2.2)
noncomputable abbrev eR : DW (Nat × Nat) (Int × Int) := ⟨rel2, dR, fun a => [.real a.1 a.2], fun a => .tup (.real a.1 a.2) .tup0, aW fun w K => realW w fun a b => K (a, b), fun {α Q k' k ws vs} r q h => aW_s (g := fun v vs => realK v fun a b => k (a, b) vs) r h fun w v ws vs r1 r2 h => realW_s (P := fun v => Q (realK v fun a b => k (a, b) vs)) r1 h fun a b h => q (a, b) ws vs r2 h⟩
theorem pairW_s {α : Type} {Q : Option α → Prop} {w : W} {v : V} {K : Nat × Nat → Bool} {k : Int → Int → Option α} (r : WR w v) (h : pairW w K = true) (q : ∀ a, K a = true → Q (k (dec a.1) (dec a.2))) : Q (tupK v fun l => aI (fun a l => aI (fun b l => match l with | [] => k a b | _ => none) l) l) := by
  refine tupW_s (P := fun v => Q (tupK v fun l => aI (fun a l => aI (fun b l => match l with | [] => k a b | _ => none) l) l)) r h fun ws vs r h => ?_
  cases r with
  | tup0 => exact no h
  | tup r1 r2 => cases r2 with
    | tup0 => exact no h
    | @tup w2 v2 ws vs r2 r3 => cases r3 with
      | tup _ _ => exact no h
      | tup0 => exact twoW_r (P := fun x y => Q (intK x fun a => intK y fun b => k a b)) r1 r2 h fun a b h => q (a, b) h
noncomputable abbrev eT : DW (Nat × Nat) (Int × Int) := ⟨rel2, dT, fun a => [.tup [.int a.1, .int a.2]], fun a => .tup (.tup (.int a.1) (.tup (.int a.2) .tup0)) .tup0, aW pairW, fun {α Q k' k ws vs} r q h => aW_s (g := fun v vs => tupK v fun l => aI (fun a l => aI (fun b l => match l with | [] => k (a, b) vs | _ => none) l) l) r h fun w v ws vs r1 r2 h => pairW_s (k := fun a b => k (a, b) vs) r1 h fun a h => q a ws vs r2 h⟩
noncomputable abbrev eP {A' A B' B : Type} (d : DW A' A) (e : DW B' B) : DW (A' × B') (A × B) := ⟨fun a => (d.rel a.1, e.rel a.2), dP d.v e.v, fun a => d.enc a.1 ++ e.enc a.2, fun a => WR.app (d.er a.1) (e.er a.2), fun k => d.dec fun a => e.dec fun b => k (a, b), fun {α Q k' k ws vs} r q h => d.ok (k := fun a => e.v.dec fun b => k (a, b)) r (fun a ws vs r h => e.ok (k := fun b => k (d.rel a, b)) r (fun b ws vs r h => q (a, b) ws vs r h) h) h⟩
noncomputable abbrev semW {A' A B' : Type} (d : DW A' A) (f : A' → (B' → Bool) → Bool) (mk : B' → W) (ws : List W) (K : W → Bool) : Bool := d.dec (fun a ws => nilB ws (f a fun b => K (mk b))) ws
theorem a0_r {α : Type} {Q : Option α → Prop} {ws : List W} {vs : List V} {x : Bool} {X : Option α} (r : WR (.tup ws) (.tup vs)) (h : nilB ws x = true) (q : x = true → Q X) : Q (a0 X vs) := by
  cases r with
  | tup0 => exact q h
  | tup _ _ => exact no h
theorem semr {A' A B' B : Type} {d : DW A' A} {f : A' → (B' → Bool) → Bool} {mk : B' → W} {p : A → Option B} {mv : B → V} {rb : B' → B} (hm : ∀ b, WR (mk b) (mv (rb b))) (hf : ∀ a {K}, f a K = true → ∃ b, p (d.rel a) = some (rb b) ∧ K b = true) {α : Type} {Q : Option α → Prop} : SemR Q (semW d f mk) (semD d.v p mv) := fun ws vs K' K r hK h =>
  d.ok (k := fun a => a0 ((p a).bind fun x => K (mv x))) r (fun a ws vs r h => a0_r r h fun h => (hf a h).elim fun b h => by rw [h.1]; exact hK _ _ (hm b) h.2) h
noncomputable abbrev semWO {A' A B' : Type} (d : DW A' A) (f : A' → (B' → Bool) → Bool → Bool) (mk : B' → W) (ws : List W) (K : W → Bool) : Bool := d.dec (fun a ws => nilB ws (f a (fun b => K (mk b)) (K .non))) ws
theorem semro {A' A B' B : Type} {d : DW A' A} {f : A' → (B' → Bool) → Bool → Bool} {mk : B' → W} {p : A → Option (Option B)} {mv : B → V} {rb : B' → B} (hm : ∀ b, WR (mk b) (mv (rb b))) (hf : ∀ a {K Kn}, f a K Kn = true → (p (d.rel a) = some none ∧ Kn = true) ∨ ∃ b, p (d.rel a) = some (some (rb b)) ∧ K b = true) {α : Type} {Q : Option α → Prop} : SemR Q (semWO d f mk) (semO d.v p mv) := fun ws vs K' K r hK h =>
  d.ok (k := fun a => a0 ((p a).bind fun x => match x with | none => K .none | some y => K (mv y))) r (fun a ws vs r h => a0_r r h fun h => by
    rcases hf a h with ⟨h1, h2⟩ | ⟨b, h1, h2⟩
    · rw [h1]; exact hK _ _ .non h2
    · rw [h1]; exact hK _ _ (hm b) h2) h
noncomputable abbrev wR (x : Nat × Nat) : W := .real x.1 x.2
noncomputable abbrev wT (x : Nat × Nat) : W := .tup [.int x.1, .int x.2]
noncomputable abbrev wP (x : Nat × Nat × Nat) : W := .tup [.int x.1, .tup [.int x.2.1, .int x.2.2]]
noncomputable abbrev wN (_ : Unit) : W := .non
theorem wr2 {a b : W} {x y : V} (h : WR a x) (h' : WR b y) : WR (.tup [a, b]) (.tup [x, y]) := .tup h (.tup h' .tup0)
noncomputable abbrev argsW (i : Nat) (ws : List W) : List W := ws ++ List.replicate ((defAt i).2.2.names.length - ws.length) .undef
theorem run_d {α κ A' A : Type} {d : DW A' A} {u : κ → W → Bool} {R : V → Option α} {QK : κ → Option α → Prop} (hu : ∀ K w v, WR w v → u K w = true → QK K (R v)) {S : TbW} {T : Tb α} (O : ∀ K, TbR (QK K) S T) (i : Nat) {f : A' → κ → Bool} {p : A → Option α}
    (hb : f = fun a K => evWS S (u K) 60 false (argsW i (d.enc a)) (defAt i).2.1 fun _ => u K .non) (ho : p = fun a => evS T R 60 false (argsAt i (d.v.enc a)) (defAt i).2.1 fun _ => R .none) {a : A'} {K : κ} (h : f a K = true) : QK K (p (d.rel a)) := by
  rw [ho]
  rw [hb] at h
  refine evS_r (O K) (hu K) 60 false ?_ (fun _ _ _ h => hu K _ _ .non h) h
  unfold argsAt argsW
  rw [(d.er a).len]; exact (d.er a).app (WR.rep _)
noncomputable abbrev uI (K : Nat → Bool) (w : W) : Bool := intW w K
noncomputable abbrev uB (K : Bool → Bool) (w : W) : Bool := boolW w K
noncomputable abbrev uN (K : Bool) (w : W) : Bool := nonW w K
noncomputable abbrev uR (K : Nat → Nat → Bool) (w : W) : Bool := realW w K
noncomputable abbrev uT (K : Nat → Nat → Bool) (w : W) : Bool := pairW w fun a => K a.1 a.2
noncomputable abbrev uV (K : Nat → Nat → Bool) (Kn : Bool) (w : W) : Bool := match w with | .non => Kn | w => uT K w
noncomputable abbrev uP (K : Nat → Nat → Nat → Bool) (w : W) : Bool := tupW w fun ws => match ws with
  | [] => false
  | a :: ws => (match ws with
    | [] => false
    | b :: ws => nilB ws (intW a fun a => pairW b fun b => K a b.1 b.2))
noncomputable def qI (K : Nat → Bool) (o : Option Int) : Prop := ∃ r, o = some r ∧ ∃ c, r = dec c ∧ K c = true
noncomputable def qB (K : Bool → Bool) (o : Option Bool) : Prop := ∃ r, o = some r ∧ K r = true
noncomputable def qN (K : Bool) (o : Option Unit) : Prop := ∃ r, o = some r ∧ K = true
noncomputable def q2' (K : Nat → Nat → Bool) (o : Option (Int × Int)) : Prop := ∃ r, o = some r ∧ ∃ c d, r = (dec c, dec d) ∧ K c d = true
noncomputable def qV (K : (Nat → Nat → Bool) × Bool) (o : Option (Option (Int × Int))) : Prop := ∃ r, o = some r ∧ opn K.1 K.2 r
noncomputable def qP (K : Nat → Nat → Nat → Bool) (o : Option (Int × Int × Int)) : Prop := ∃ r, o = some r ∧ ∃ c d e, r = (dec c, dec d, dec e) ∧ K c d e = true
theorem uI_r (K : Nat → Bool) (w v) (r : WR w v) (h : uI K w = true) : ∃ r, rI v = some r ∧ ∃ c, r = dec c ∧ K c = true := intW_s (P := fun v => ∃ r, rI v = some r ∧ ∃ c, r = dec c ∧ K c = true) r h fun a h => ⟨_, rfl, a, rfl, h⟩
theorem uB_r (K : Bool → Bool) (w v) (r : WR w v) (h : uB K w = true) : ∃ r, rB v = some r ∧ K r = true := boolW_s (P := fun v => ∃ r, rB v = some r ∧ K r = true) r h fun a h => ⟨_, rfl, h⟩
theorem uN_r (K : Bool) (w v) (r : WR w v) (h : uN K w = true) : ∃ r, rN v = some r ∧ K = true := nonW_s (P := fun v => ∃ r, rN v = some r ∧ K = true) r h fun h => ⟨(), rfl, h⟩
theorem uR_r (K : Nat → Nat → Bool) (w v) (r : WR w v) (h : uR K w = true) : ∃ r, rR v = some r ∧ ∃ c d, r = (dec c, dec d) ∧ K c d = true := realW_s (P := fun v => ∃ r, rR v = some r ∧ ∃ c d, r = (dec c, dec d) ∧ K c d = true) r h fun a b h => ⟨_, rfl, a, b, rfl, h⟩
theorem uT_r (K : Nat → Nat → Bool) (w v) (r : WR w v) (h : uT K w = true) : ∃ r, rT v = some r ∧ ∃ c d, r = (dec c, dec d) ∧ K c d = true := pairW_s (Q := fun o => ∃ r, o = some r ∧ ∃ c d, r = (dec c, dec d) ∧ K c d = true) (k := fun a b => some (a, b)) r h fun a h => ⟨_, rfl, a.1, a.2, rfl, h⟩
noncomputable abbrev uV' (K : (Nat → Nat → Bool) × Bool) : W → Bool := uV K.1 K.2
theorem uV_r (K : (Nat → Nat → Bool) × Bool) (w v) (r : WR w v) (h : uV' K w = true) : ∃ r, rV v = some r ∧ opn K.1 K.2 r := by
  have t : ∀ {v}, WR w v → uT K.1 w = true → ∃ r, ((rT v).bind fun x => some (some x)) = some r ∧ opn K.1 K.2 r := fun r h => by
    obtain ⟨x, h1, c, d, e, h2⟩ := uT_r _ w _ r h
    rw [h1]
    subst e
    exact ⟨_, rfl, c, d, rfl, rfl, h2⟩
  cases r with
  | non => exact ⟨_, rfl, h⟩
  | tup0 => exact t .tup0 h
  | tup r1 r2 => exact t (.tup r1 r2) h
  | _ => exact no h
theorem uP_r (K : Nat → Nat → Nat → Bool) (w v) (r : WR w v) (h : uP K w = true) : ∃ r, rP v = some r ∧ ∃ c d e, r = (dec c, dec d, dec e) ∧ K c d e = true := by
  refine tupW_s (P := fun v => ∃ r, rP v = some r ∧ ∃ c d e, r = (dec c, dec d, dec e) ∧ K c d e = true) r h fun ws vs r h => ?_
  cases r with
  | tup0 => exact no h
  | tup r1 r2 => cases r2 with
    | tup0 => exact no h
    | tup r2 r3 => cases r3 with
      | tup _ _ => exact no h
      | tup0 =>
        refine intW_s (P := fun x => ∃ r, rP (.tup [x, _]) = some r ∧ ∃ c d e, r = (dec c, dec d, dec e) ∧ K c d e = true) r1 h fun a h => ?_
        exact pairW_s (Q := fun o => ∃ r, o = some r ∧ ∃ c d e, r = (dec c, dec d, dec e) ∧ K c d e = true) (k := fun b c => some (dec a, b, c)) r2 h fun b h => ⟨_, rfl, a, b.1, b.2, rfl, h⟩
theorem fin1 {o : Option Int} {K : Nat → Bool} (h : ∃ r, o = some r ∧ ∃ c, r = dec c ∧ K c = true) : ∃ b, o = some (dec b) ∧ K b = true := by
  obtain ⟨_, h1, c, rfl, h2⟩ := h; exact ⟨c, h1, h2⟩
theorem finB {o : Option Bool} {K : Bool → Bool} (h : ∃ r, o = some r ∧ K r = true) : ∃ b, o = some (id b) ∧ K b = true := h
theorem finN {o : Option Unit} {K : Unit → Bool} (h : ∃ r, o = some r ∧ K () = true) : ∃ b, o = some (id b) ∧ K b = true := h
theorem fin2 {o : Option (Int × Int)} {K : Nat × Nat → Bool} (h : ∃ r, o = some r ∧ ∃ c d, r = (dec c, dec d) ∧ K (c, d) = true) : ∃ b, o = some (rel2 b) ∧ K b = true := by
  obtain ⟨_, h1, c, d, rfl, h2⟩ := h; exact ⟨(c, d), h1, h2⟩
theorem fin3 {o : Option (Int × Int × Int)} {K : Nat × Nat × Nat → Bool} (h : ∃ r, o = some r ∧ ∃ c d e, r = (dec c, dec d, dec e) ∧ K (c, d, e) = true) : ∃ b, o = some (rel3 b) ∧ K b = true := by
  obtain ⟨_, h1, c, d, e, rfl, h2⟩ := h; exact ⟨(c, d, e), h1, h2⟩
theorem finO {o : Option (Option (Int × Int))} {K : Nat × Nat → Bool} {Kn : Bool} (h : ∃ r, o = some r ∧ opn (fun c d => K (c, d)) Kn r) : (o = some none ∧ Kn = true) ∨ ∃ b, o = some (some (rel2 b)) ∧ K b = true := by
  obtain ⟨r, h1, h2⟩ := h
  cases r with
  | none => exact .inl ⟨h1, h2⟩
  | some p => obtain ⟨c, d, e1, e2, h3⟩ := h2; exact .inr ⟨(c, d), by rw [h1]; exact congrArg (fun x => some (some x)) (Prod.ext e1 e2), h3⟩
theorem wl {k : Nat} {x : Int} (h : dec (nlit k) = x) : WR (.int (nlit k)) (.int x) := h ▸ .int _
noncomputable abbrev w_abs : SemW := semW eI nabs W.int
theorem r_abs {α : Type} {Q : Option α → Prop} : SemR Q w_abs m_abs := fun ws vs K' K r hK h =>
  eI.ok (k := fun a => a0 (K (.int (a.natAbs : Int)))) r (fun a ws vs r h => a0_r r h fun h => q1 hK (nabs_s rfl) h) h
noncomputable abbrev w_divmod : SemW := semW (eP eI eI) (fun a K => ndiv a.1 a.2 fun c => nmod a.1 a.2 fun d => K (c, d)) wT
theorem r_divmod {α : Type} {Q : Option α → Prop} : SemR Q w_divmod m_divmod := fun ws vs K' K r hK h =>
  (eP eI eI).ok (k := fun a => a0 ((gdiv a.1 a.2).bind fun c => (gmod a.1 a.2).bind fun d => K (.tup [.int c, .int d]))) r (fun a ws vs r h => a0_r r h fun h => by
    obtain ⟨c, h1, h⟩ := ndiv_s rfl rfl h
    obtain ⟨d, h2, h⟩ := nmod_s rfl rfl h
    rw [show (eP eI eI).rel a = (dec a.1, dec a.2) from rfl, h1, Option.bind_some, h2]
    exact hK _ _ (wr2 (.int c) (.int d)) h) h
noncomputable abbrev w_Real : SemW := semW (eP eI eI) (fun a K => K a) wR
theorem r_Real {α : Type} {Q : Option α → Prop} : SemR Q w_Real m_Real := fun ws vs K' K r hK h =>
  (eP eI eI).ok (k := fun a => a0 (K (.real a.1 a.2))) r (fun a ws vs r h => a0_r r h (hK _ _ (.real a.1 a.2))) h
noncomputable abbrev foldW (f : Nat → Nat → (Nat → Bool) → Bool) : Nat → List W → (W → Bool) → Bool
  | a, [], K => K (.int a)
  | a, w :: ws, K => intW w fun b => f a b fun c => foldW f c ws K
noncomputable abbrev mostW (f : Nat → Nat → (Nat → Bool) → Bool) (l : List W) (K : W → Bool) : Bool := match l with | [] => false | a :: l => intW a fun a => foldW f a l K
noncomputable abbrev exW (f : Nat → Nat → (Nat → Bool) → Bool) (ws : List W) (K : W → Bool) : Bool := match ws with
  | [] => false
  | v :: ws => (match ws with
    | [] => (match v with | .tup l => mostW f l K | .lst l => mostW f l K | _ => false)
    | w :: ws => nilB ws (twoW v w fun a b => f a b fun c => K (.int c)))
section
variable {α : Type} {Q : Option α → Prop} {f : Nat → Nat → (Nat → Bool) → Bool} {F : Int → List Int → Int} {g : Int → Int → Int}
theorem foldW_r (hf : ∀ {a b : Nat} {k : Nat → Bool}, f a b k = true → ∃ c, g (dec a) (dec b) = dec c ∧ k c = true) (h0 : ∀ a, F a [] = a) (h1 : ∀ a b l, F a (b :: l) = F (g a b) l) : ∀ {ws : List W} {vs : List V} {a : Nat} {K' : W → Bool} {K : V → Option α}, WR (.tup ws) (.tup vs) → (∀ w v, WR w v → K' w = true → Q (K v)) → foldW f a ws K' = true → Q (intsK vs fun l => K (.int (F (dec a) l)))
  | [], _, a, K', K, r, hK, h => by cases r; show Q (K (.int (F (dec a) []))); rw [h0]; exact hK _ _ (.int a) h
  | _ :: _, _, a, K', K, r, hK, h => by
    cases r with
    | @tup w v ws vs r1 r2 =>
      refine intW_s (P := fun v => Q (intK v fun b => intsK vs fun l => K (.int (F (dec a) (b :: l))))) r1 h fun b h => ?_
      obtain ⟨c, e, h⟩ := hf h
      have := foldW_r hf h0 h1 r2 hK h
      rw [← e] at this
      simp only [h1]
      exact this
theorem mostW_r (hf : ∀ {a b : Nat} {k : Nat → Bool}, f a b k = true → ∃ c, g (dec a) (dec b) = dec c ∧ k c = true) (h0 : ∀ a, F a [] = a) (h1 : ∀ a b l, F a (b :: l) = F (g a b) l) {ws : List W} {vs : List V} {K' : W → Bool} {K : V → Option α} (r : WR (.tup ws) (.tup vs)) (hK : ∀ w v, WR w v → K' w = true → Q (K v)) (h : mostW f ws K' = true) : Q (mostK F vs K) := by
  cases r with
  | tup0 => exact no h
  | @tup w v ws vs r1 r2 => exact intW_s (P := fun v => Q (intK v fun a => intsK vs fun l => K (.int (F a l)))) r1 h fun a h => foldW_r hf h0 h1 r2 hK h
theorem exW_r (hf : ∀ {a b : Nat} {k : Nat → Bool}, f a b k = true → ∃ c, g (dec a) (dec b) = dec c ∧ k c = true) (h0 : ∀ a, F a [] = a) (h1 : ∀ a b l, F a (b :: l) = F (g a b) l) : SemR Q (exW f) (exK F g) := fun ws vs K' K r hK h => by
  cases r with
  | tup0 => exact no h
  | @tup w v ws vs r1 r2 => cases r2 with
    | tup0 => cases r1 with
      | tup0 => exact mostW_r hf h0 h1 .tup0 hK h
      | tup q1 q2 => exact mostW_r hf h0 h1 (.tup q1 q2) hK h
      | lst q => exact mostW_r hf h0 h1 q hK h
      | _ => exact no h
    | @tup w2 v2 ws vs r2 r3 => cases r3 with
      | tup _ _ => exact no h
      | tup0 => exact twoW_r (P := fun x y => Q (intK x fun a => intK y fun b => K (.int (g a b)))) r1 r2 h fun a b h => q1 hK hf h
end
noncomputable abbrev w_min : SemW := exW nmin
noncomputable abbrev w_max : SemW := exW nmax
theorem r_min {α : Type} {Q : Option α → Prop} : SemR Q w_min m_min := exW_r (nmin_s rfl rfl) (fun _ => rfl) fun _ _ _ => rfl
theorem r_max {α : Type} {Q : Option α → Prop} : SemR Q w_max m_max := exW_r (nmax_s rfl rfl) (fun _ => rfl) fun _ _ _ => rfl
end Mine
end
section
namespace Mine
noncomputable abbrev capW (ns : List (Str × NameKind)) (ρ : List W) (p : Str) (a : Nat) (q : Str × NameKind) : W := match q.2 with
  | .local => if Fast.sEq q.1 p = true then .int a else .undef
  | .free => (match ixL q.1 ns 0 with
    | some (j, .cell) => (match ρ[j]? with | some v => v | none => .undef)
    | _ => .undef)
  | _ => .undef
noncomputable abbrev inTW (gs : List (Str × W)) (fi : List (Str × SemW)) (scope : Scope) : TbW := ⟨scope.names, gs, fi, fun _ => none, fun _ _ _ _ => none, fun _ _ _ _ _ => none⟩
noncomputable abbrev lamW (ns : List (Str × NameKind)) (gs : List (Str × W)) (fi : List (Str × SemW)) (inn : Str) (ρ : List W) (params : Arguments) (body : Expr) (scope : Scope) : Option KF :=
  argK params fun p => if (inOk ns params scope p && Fast.sEq inn (Str.ofString "<lambda>")) = true then some fun a K Kn => evWE (inTW gs fi scope) (scope.names.map (capW ns ρ p a)) 60 body (uV K Kn) else none
noncomputable abbrev defW (ns : List (Str × NameKind)) (gs : List (Str × W)) (fi : List (Str × SemW)) (inn : Str) (ρ : List W) (name : Str) (params : Arguments) (body : List Stmt) (scope : Scope) : Option KF :=
  argK params fun p => if (inOk ns params scope p && Fast.sEq inn name && !(ns.lookup name == some .globalExplicit)) = true then some fun a K Kn => evWS (inTW gs fi scope) (uV K Kn) 60 false (scope.names.map (capW ns ρ p a)) body (fun _ => false) else none
section
variable {ns : List (Str × NameKind)} {gs' : List (Str × W)} {gs : List (Str × V)} {fi' : List (Str × SemW)} {fi : List (Str × Sem' (Option (Int × Int)))} {inn : Str} {ρ' : List W} {ρ : List V}
theorem cap_r (G : WR (.tup ρ') (.tup ρ)) {p : Str} {a : Nat} : ∀ l : List (Str × NameKind), WR (.tup (l.map (capW ns ρ' p a))) (.tup (l.map (capV ns ρ p (dec a))))
  | [] => .tup0
  | (x, kd) :: l => .tup (by
      cases kd with
      | «local» =>
        show WR (if Fast.sEq x p = true then .int a else .undef) (if Fast.sEq x p = true then .int (dec a) else .undef)
        by_cases h : Fast.sEq x p = true
        · rw [if_pos h, if_pos h]; exact .int a
        · rw [if_neg h, if_neg h]; exact .undef
      | free =>
        show WR (match ixL x ns 0 with | some (j, .cell) => (match ρ'[j]? with | some v => v | none => .undef) | _ => .undef) (match ixL x ns 0 with | some (j, .cell) => (match ρ[j]? with | some v => v | none => .undef) | _ => .undef)
        cases ixL x ns 0 with
        | none => exact .undef
        | some q =>
          obtain ⟨j, kd⟩ := q
          cases kd with
          | cell =>
            show WR (match ρ'[j]? with | some v => v | none => .undef) (match ρ[j]? with | some v => v | none => .undef)
            cases h : ρ'[j]? with
            | none =>
              have e : ρ[j]? = none := List.getElem?_eq_none (by rw [← G.len]; exact List.getElem?_eq_none_iff.mp h)
              rw [e]; exact .undef
            | some w => obtain ⟨v, hv, r⟩ := G.at j h; rw [hv]; exact r
          | _ => exact .undef
      | _ => exact .undef) (cap_r G l)
theorem argK_q {β γ : Type} {params : Arguments} {k : Str → Option β} {k2 : Str → Option γ} {R : β → γ → Prop} {b : β} (h : argK params k = some b) (q : ∀ p b, k p = some b → ∃ c, k2 p = some c ∧ R b c) : ∃ c, argK params k2 = some c ∧ R b c := by
  unfold argK at h ⊢
  split at h
  · exact nope h
  · rename_i a as e
    obtain ⟨rfl, h⟩ := nilK_s h
    obtain ⟨h1, h⟩ := isNoneK_s h
    obtain ⟨h2, h⟩ := gif_s h
    obtain ⟨c, h3, h4⟩ := q _ _ h
    exact ⟨c, by rw [h1]; exact (if_pos h2).trans h3, h4⟩
theorem inT_r {Q : Option (Option (Int × Int)) → Prop} (hg : LR WR gs' gs) (hf : LR (SemR Q) fi' fi) (scope : Scope) : TbR Q (inTW gs' fi' scope) (inT gs fi scope) := ⟨rfl, hg, hf, fun _ h => nope h, fun _ h => nope h, fun _ h => nope h⟩
theorem if_some {β : Type} {c : Bool} {x y : β} (h : (if c = true then some x else none) = some y) : c = true ∧ x = y := by
  obtain ⟨h1, h2⟩ := gif_s h; exact ⟨h1, Option.some.inj h2⟩
theorem bodyS_r {α : Type} {Q : Option α → Prop} {S : TbW} {T : Tb α} (O : TbR Q S T) {R' : W → Bool} {R : V → Option α} (hR : ∀ w v, WR w v → R' w = true → Q (R v)) {n : Nat} {ws : List W} {vs : List V} {sts : List Stmt} (G : WR (.tup ws) (.tup vs)) (h : evWS S R' n false ws sts (fun _ => false) = true) : Q (evS T R n false vs sts fun _ => none) :=
  evS_r O hR n false G (fun _ _ _ h => no h) h
theorem lam_r (hg : LR WR gs' gs) (hf : ∀ Q, LR (SemR Q) fi' fi) (G : WR (.tup ρ') (.tup ρ)) {params : Arguments} {body : Expr} {scope : Scope} {k : KF} (h : lamW ns gs' fi' inn ρ' params body scope = some k) : ∃ Fn, lamF ns gs fi inn ρ params body scope = some Fn ∧ FnR k Fn :=
  argK_q h fun p b h => by
    obtain ⟨h1, rfl⟩ := if_some h
    refine ⟨_, if_pos h1, fun {a K Kn} h => ?_⟩
    have h : evWE (inTW gs' fi' scope) (scope.names.map (capW ns ρ' p a)) 60 body (uV K Kn) = true := h
    show qV (K, Kn) (evE (inT gs fi scope) (scope.names.map (capV ns ρ p (dec a))) 60 body rV)
    generalize 60 = n at h ⊢
    exact (snr (inT_r hg (hf (qV (K, Kn))) scope) (cap_r G _) n).E body (uV K Kn) rV (uV_r (K, Kn)) h
theorem def_r (hg : LR WR gs' gs) (hf : ∀ Q, LR (SemR Q) fi' fi) (G : WR (.tup ρ') (.tup ρ)) {name : Str} {params : Arguments} {body : List Stmt} {scope : Scope} {k : KF} (h : defW ns gs' fi' inn ρ' name params body scope = some k) : ∃ Fn, defF ns gs fi inn ρ name params body scope = some Fn ∧ FnR k Fn :=
  argK_q h fun p b h => by
    obtain ⟨h1, rfl⟩ := if_some h
    refine ⟨_, if_pos h1, fun {a K Kn} h => ?_⟩
    have h : evWS (inTW gs' fi' scope) (uV K Kn) 60 false (scope.names.map (capW ns ρ' p a)) body (fun _ => false) = true := h
    show qV (K, Kn) (evS (inT gs fi scope) rV 60 false (scope.names.map (capV ns ρ p (dec a))) body (fun _ => none))
    generalize 60 = n at h ⊢
    exact bodyS_r (Q := qV (K, Kn)) (inT_r hg (hf (qV (K, Kn))) scope) (R' := uV K Kn) (R := rV) (fun w v r h => uV_r (K, Kn) w v r h) (cap_r G scope.names) h
end
end Mine
end
section
namespace Mine
structure We where
  e : En
  w : SemW
  r : ∀ {α : Type} {Q : Option α → Prop}, SemR Q w e.m
noncomputable abbrev gsW : List (Str × W) := [("MORE", .int (nlit 12)), ("MOST_PLACE", .int (nlit 17)), ("MOST_TURNS", .int (nlit 512)), ("REACH", .int (nlit 65536)), ("half_turn", .gl "half_turn")]
theorem gsW_r : LR WR gsW gsAll := ⟨rfl, wl (dec_lit 12), rfl, wl (dec_lit 17), rfl, wl (dec_lit 512), rfl, wl (dec_lit 65536), rfl, .gl _, trivial⟩
noncomputable abbrev fsW (es : List We) : List (Str × SemW) := es.map fun x => (x.e.nm, x.w)
noncomputable abbrev ens (es : List We) : List En := es.map We.e
noncomputable abbrev fiW (n : Nat) (es : List We) : List We := es.filter fun x => Nat.ble x.e.lv n
theorem fsW_r {α : Type} {Q : Option α → Prop} : ∀ es, LR (SemR Q) (fsW es) (fsE α (ens es))
  | [] => trivial
  | x :: es => ⟨rfl, x.r, fsW_r es⟩
theorem fiW_e (n : Nat) (es : List We) : ens (fiW n es) = fiE n (ens es) := by
  unfold fiE
  rw [List.filter_map]
  rfl
noncomputable abbrev tbW (i : Nat) (es : List We) : TbW := ⟨(defAt i).2.2.names, gsW, fsW es, fun _ => none, fun _ _ _ _ => none, fun _ _ _ _ _ => none⟩
noncomputable abbrev tbWC (n i : Nat) (inn : Str) (es : List We) : TbW := ⟨(defAt i).2.2.names, gsW, fsW (fiW n es), fun _ => none, lamW (defAt i).2.2.names gsW (fsW (fiW 11 es)) inn, defW (defAt i).2.2.names gsW (fsW (fiW 11 es)) inn⟩
theorem tb_r {α : Type} {Q : Option α → Prop} {i : Nat} {es : List We} {fl : Nat} : TbR Q (tbW i es) (tbE α i (ens es) (fun _ => none) fl) := ⟨rfl, gsW_r, fsW_r es, fun _ h => nope h, fun _ h => nope h, fun _ h => nope h⟩
theorem tbC_r {α : Type} {Q : Option α → Prop} {n i : Nat} {inn : Str} {es : List We} : TbR Q (tbWC n i inn es) (tbC α n i inn (ens es)) := by
  unfold tbC
  rw [← fiW_e, ← fiW_e]
  exact ⟨rfl, gsW_r, fsW_r _, fun _ h => nope h, fun G h => lam_r gsW_r (fun Q => fsW_r _) G h, fun G h => def_r gsW_r (fun Q => fsW_r _) G h⟩
noncomputable def OkW {κ A' A β : Type} (QK : κ → Option β → Prop) (d : DW A' A) (f : A' → κ → Bool) (p : A → Option β) : Prop := ∀ a K, f a K = true → QK K (p (d.rel a))
section
variable {κ A' A β : Type} {QK : κ → Option β → Prop} {u : κ → W → Bool} {R : V → Option β} {d : DW A' A} {f : A' → κ → Bool} {p : A → Option β}
theorem okW (i : Nat) (es : List We) (hu : ∀ K w v, WR w v → u K w = true → QK K (R v))
    (hb : f = fun a K => evWS (tbW i es) (u K) 60 false (argsW i (d.enc a)) (defAt i).2.1 fun _ => u K .non := by kernel_rfl)
    (ho : p = fun a => evS (tbE β i (ens es) (fun _ => none) 0) R 60 false (argsAt i (d.v.enc a)) (defAt i).2.1 fun _ => R .none := by kernel_rfl) : OkW QK d f p := fun _ _ h => run_d hu (fun _ => tb_r) i hb ho h
theorem okC (n i : Nat) (inn : Str) (es : List We) (hu : ∀ K w v, WR w v → u K w = true → QK K (R v))
    (hb : f = fun a K => evWS (tbWC n i inn es) (u K) 60 false (argsW i (d.enc a)) (defAt i).2.1 fun _ => u K .non := by kernel_rfl)
    (ho : p = fun a => evS (tbC β n i inn (ens es)) R 60 false (argsAt i (d.v.enc a)) (defAt i).2.1 fun _ => R .none := by kernel_rfl) : OkW QK d f p := fun _ _ h => run_d hu (fun _ => tbC_r) i hb ho h
end
section
variable {A' A : Type} {d : DW A' A}
noncomputable abbrev wI {f : A' → (Nat → Bool) → Bool} {p : A → Option Int} (e : En) (x : OkW qI d f p) (he : ∀ α : Type, e.m (α := α) = semD d.v p mI := by intro _; rfl) : We := ⟨e, semW d f W.int, fun {_ _} => (he _) ▸ semr (rb := dec) (fun b => .int b) fun a K h => fin1 (x _ _ h)⟩
noncomputable abbrev wB {f : A' → (Bool → Bool) → Bool} {p : A → Option Bool} (e : En) (x : OkW qB d f p) (he : ∀ α : Type, e.m (α := α) = semD d.v p mB := by intro _; rfl) : We := ⟨e, semW d f W.bool, fun {_ _} => (he _) ▸ semr (rb := id) (fun b => .bool b) fun a K h => finB (x _ _ h)⟩
noncomputable abbrev wN' {f : A' → Bool → Bool} {p : A → Option Unit} (e : En) (x : OkW qN d f p) (he : ∀ α : Type, e.m (α := α) = semD d.v p mN := by intro _; rfl) : We := ⟨e, semW d (fun a K => f a (K ())) wN, fun {_ _} => (he _) ▸ semr (rb := id) (fun b => .non) fun a K h => finN (x _ _ h)⟩
noncomputable abbrev wR' {f : A' → (Nat → Nat → Bool) → Bool} {p : A → Option (Int × Int)} (e : En) (x : OkW q2' d f p) (he : ∀ α : Type, e.m (α := α) = semD d.v p mR := by intro _; rfl) : We := ⟨e, semW d (fun a K => f a fun c d => K (c, d)) wR, fun {_ _} => (he _) ▸ semr (rb := rel2) (fun b => .real b.1 b.2) fun a K h => fin2 (x _ _ h)⟩
noncomputable abbrev wT' {f : A' → (Nat → Nat → Bool) → Bool} {p : A → Option (Int × Int)} (e : En) (x : OkW q2' d f p) (he : ∀ α : Type, e.m (α := α) = semD d.v p mT := by intro _; rfl) : We := ⟨e, semW d (fun a K => f a fun c d => K (c, d)) wT, fun {_ _} => (he _) ▸ semr (rb := rel2) (fun b => wr2 (.int b.1) (.int b.2)) fun a K h => fin2 (x _ _ h)⟩
noncomputable abbrev wP' {f : A' → (Nat → Nat → Nat → Bool) → Bool} {p : A → Option (Int × Int × Int)} (e : En) (x : OkW qP d f p) (he : ∀ α : Type, e.m (α := α) = semD d.v p mP := by intro _; rfl) : We := ⟨e, semW d (fun a K => f a fun c d e => K (c, d, e)) wP, fun {_ _} => (he _) ▸ semr (rb := rel3) (fun b => wr2 (.int b.1) (wr2 (.int b.2.1) (.int b.2.2))) fun a K h => fin3 (x _ _ h)⟩
noncomputable abbrev wV' {f : A' → ((Nat → Nat → Bool) × Bool) → Bool} {p : A → Option (Option (Int × Int))} (e : En) (x : OkW qV d f p) (he : ∀ α : Type, e.m (α := α) = semO d.v p mT := by intro _; rfl) : We := ⟨e, semWO d (fun a K Kn => f a (fun c d => K (c, d), Kn)) wT, fun {_ _} => (he _) ▸ semro (rb := rel2) (fun b => wr2 (.int b.1) (.int b.2)) fun a K Kn h => finO (o := p (d.rel a)) (K := K) (Kn := Kn) (x a (fun c d => K (c, d), Kn) h)⟩
end
noncomputable abbrev wd_abs : We := ⟨e_abs, w_abs, r_abs⟩
noncomputable abbrev wd_divmod : We := ⟨e_divmod, w_divmod, r_divmod⟩
noncomputable abbrev wd_min : We := ⟨e_min, w_min, r_min⟩
noncomputable abbrev wd_max : We := ⟨e_max, w_max, r_max⟩
noncomputable abbrev wd_Real : We := ⟨e_Real, w_Real, r_Real⟩
end Mine
end
section
namespace Mine
theorem x_sign_of_whole : OkW qI eI (fun a K => n_sign_of_whole a K) (fun a => p_sign_of_whole a) := fun _ _ => n_sign_of_whole_s rfl
noncomputable abbrev wd_sign_of_whole : We := wI e_sign_of_whole x_sign_of_whole
theorem x_zeros_below : OkW qI eI (fun a K => n_zeros_below a K) (fun a => p_zeros_below a) := fun _ _ => n_zeros_below_s rfl
noncomputable abbrev wd_zeros_below : We := wI e_zeros_below x_zeros_below
noncomputable def n_size_of (number : Nat) (K : Nat → Bool) : Bool :=
nabs number fun t1 =>
nbits t1 fun t3 =>
K t3
theorem x_size_of : OkW qI eI (fun a K => n_size_of a K) (fun a => p_size_of a) := okW 8 [wd_abs] uI_r
noncomputable abbrev wd_size_of : We := wI e_size_of x_size_of
noncomputable def n_lean (mantissa exponent : Nat) (K : Nat → Nat → Bool) : Bool :=
sel (neq mantissa (nlit 0)) (
K (nlit 0) (nlit 0)) (
n_zeros_below mantissa fun t2 =>
n_size_of mantissa fun t4 =>
nadd t4 exponent fun t5 =>
nabs t5 fun t7 =>
sel (nlt (nlit 65536) t7) (
false) (
nshr mantissa t2 fun t9 =>
nadd exponent t2 fun t11 =>
K t9 t11))
theorem x_lean : OkW q2' (eP eI eI) (fun a K => n_lean a.1 a.2 K) (fun a => p_lean a.1 a.2) := okW 11 [wd_Real, wd_zeros_below, wd_abs, wd_size_of] uR_r
noncomputable abbrev wd_lean : We := wR' e_lean x_lean
theorem n_lean_s {a0 a1 : Nat} {x0 x1 : Int} {K : Nat → Nat → Bool} (h0 : dec a0 = x0) (h1 : dec a1 = x1) (h : n_lean a0 a1 K = true) : q2' K (p_lean x0 x1) := by
  subst h0 h1
  exact x_lean (a0, a1) K h
noncomputable def n_nearest_shift (number gone : Nat) (K : Nat → Bool) : Bool :=
nshr number gone fun t1 =>
nshl (nlit 1) gone fun t3 =>
nsub t3 (nlit 1) fun t5 =>
nand number t5 fun t7 =>
nsub gone (nlit 1) fun t9 =>
nshl (nlit 1) t9 fun t11 =>
sel (nlt t11 t7) (
nadd t1 (nlit 1) fun t13 =>
K t13) (
sel (neq t7 t11) (
nand t1 (nlit 1) fun t15 =>
sel (neq t15 (nlit 1)) (
nadd t1 (nlit 1) fun t17 =>
K t17) (
K t1)) (
K t1))
theorem x_nearest_shift : OkW qI (eP eI eI) (fun a K => n_nearest_shift a.1 a.2 K) (fun a => p_nearest_shift a.1 a.2) := okW 12 [] uI_r
noncomputable abbrev wd_nearest_shift : We := wI e_nearest_shift x_nearest_shift
noncomputable def n_shifted_round (precision mantissa exponent : Nat) (K : Nat → Nat → Bool) : Bool :=
n_size_of mantissa fun t2 =>
nsub t2 precision fun t3 =>
sel (nle t3 (nlit 0)) (
n_lean mantissa exponent fun t6 t7 =>
K t6 t7) (
n_sign_of_whole mantissa fun t9 =>
nabs mantissa fun t10 =>
n_nearest_shift t10 t3 fun t13 =>
nmul t9 t13 fun t14 =>
nadd exponent t3 fun t16 =>
n_lean t14 t16 fun t19 t20 =>
K t19 t20)
theorem x_shifted_round : OkW q2' (eP eI (eP eI eI)) (fun a K => n_shifted_round a.1 a.2.1 a.2.2 K) (fun a => p_shifted_round a.1 a.2.1 a.2.2) := okW 13 [wd_lean, wd_size_of, wd_sign_of_whole, wd_nearest_shift, wd_abs] uR_r
noncomputable abbrev wd_shifted_round : We := wR' e_shifted_round x_shifted_round
theorem n_shifted_round_s {a0 a1 a2 : Nat} {x0 x1 x2 : Int} {K : Nat → Nat → Bool} (h0 : dec a0 = x0) (h1 : dec a1 = x1) (h2 : dec a2 = x2) (h : n_shifted_round a0 a1 a2 K = true) : q2' K (p_shifted_round x0 x1 x2) := by
  subst h0 h1 h2
  exact x_shifted_round (a0, a1, a2) K h
noncomputable def n_with_sticky (number : Nat) (is_more : Bool) (K : Nat → Bool) : Bool :=
nmul (nlit 2) number fun t1 =>
sel is_more (
nadd t1 (nlit 1) fun t3 =>
K t3) (
nadd t1 (nlit 0) fun t5 =>
K t5)
theorem x_with_sticky : OkW qI (eP eI eB) (fun a K => n_with_sticky a.1 a.2 K) (fun a => p_with_sticky a.1 a.2) := okW 14 [] uI_r
noncomputable abbrev wd_with_sticky : We := wI e_with_sticky x_with_sticky
noncomputable def n_rounded (precision top bottom : Nat) (K : Nat → Nat → Bool) : Bool :=
sel (neq top (nlit 0)) (
K (nlit 0) (nlit 0)) (
nadd precision (nlit 2) fun t1 =>
n_size_of bottom fun t4 =>
nadd t1 t4 fun t5 =>
n_size_of top fun t8 =>
nsub t5 t8 fun t9 =>
sel (nle (nlit 0) t9) (
nabs top fun t11 =>
nshl t11 t9 fun t13 =>
ndiv t13 bottom fun t15 =>
nmod t13 bottom fun t17 =>
n_sign_of_whole top fun t20 =>
n_with_sticky t15 (!neq t17 (nlit 0)) fun t22 =>
nmul t20 t22 fun t23 =>
nsub (nlit 0) t9 fun t25 =>
nsub t25 (nlit 1) fun t27 =>
n_shifted_round precision t23 t27 fun t30 t31 =>
K t30 t31) (
nabs top fun t32 =>
nsub (nlit 0) t9 fun t34 =>
nshl bottom t34 fun t36 =>
ndiv t32 t36 fun t38 =>
nmod t32 t36 fun t40 =>
n_sign_of_whole top fun t43 =>
n_with_sticky t38 (!neq t40 (nlit 0)) fun t45 =>
nmul t43 t45 fun t46 =>
nsub (nlit 0) t9 fun t48 =>
nsub t48 (nlit 1) fun t50 =>
n_shifted_round precision t46 t50 fun t53 t54 =>
K t53 t54))
theorem x_rounded : OkW q2' (eP eI (eP eI eI)) (fun a K => n_rounded a.1 a.2.1 a.2.2 K) (fun a => p_rounded a.1 a.2.1 a.2.2) := okW 15 [wd_shifted_round, wd_Real, wd_size_of, wd_divmod, wd_abs, wd_sign_of_whole, wd_with_sticky] uR_r
noncomputable abbrev wd_rounded : We := wR' e_rounded x_rounded
noncomputable def n_place_of (realm reale : Nat) (K : Nat → Bool) : Bool :=
n_size_of realm fun t2 =>
nadd t2 reale fun t3 =>
K t3
theorem x_place_of : OkW qI eR (fun a K => n_place_of a.1 a.2 K) (fun a => p_place_of a.1 a.2) := okW 16 [wd_size_of] uI_r
noncomputable abbrev wd_place_of : We := wI e_place_of x_place_of
noncomputable def n_sign_of (realm reale : Nat) (K : Nat → Bool) : Bool :=
n_sign_of_whole realm fun t2 =>
K t2
theorem x_sign_of : OkW qI eR (fun a K => n_sign_of a.1 a.2 K) (fun a => p_sign_of a.1 a.2) := okW 17 [wd_sign_of_whole] uI_r
noncomputable abbrev wd_sign_of : We := wI e_sign_of x_sign_of
noncomputable def n_negative (realm reale : Nat) (K : Nat → Nat → Bool) : Bool :=
nsub (nlit 0) realm fun t1 =>
K t1 reale
theorem x_negative : OkW q2' eR (fun a K => n_negative a.1 a.2 K) (fun a => p_negative a.1 a.2) := okW 18 [wd_Real] uR_r
noncomputable abbrev wd_negative : We := wR' e_negative x_negative
noncomputable def n_up_over (number bottom : Nat) (K : Nat → Bool) : Bool :=
nsub (nlit 0) number fun t1 =>
ndiv t1 bottom fun t3 =>
nsub (nlit 0) t3 fun t5 =>
K t5
theorem x_up_over : OkW qI (eP eI eI) (fun a K => n_up_over a.1 a.2 K) (fun a => p_up_over a.1 a.2) := okW 33 [] uI_r
noncomputable abbrev wd_up_over : We := wI e_up_over x_up_over
theorem n_up_over_s {a0 a1 : Nat} {x0 x1 : Int} {K : Nat → Bool} (h0 : dec a0 = x0) (h1 : dec a1 = x1) (h : n_up_over a0 a1 K = true) : qI K (p_up_over x0 x1) := by
  subst h0 h1
  exact x_up_over (a0, a1) K h
noncomputable def n_fraction_bounds (work top bottom : Nat) (K : Nat → Nat → Bool) : Bool :=
nshl top work fun t1 =>
ndiv t1 bottom fun t3 =>
nshl top work fun t5 =>
n_up_over t5 bottom fun t8 =>
K t3 t8
theorem x_fraction_bounds : OkW q2' (eP eI (eP eI eI)) (fun a K => n_fraction_bounds a.1 a.2.1 a.2.2 K) (fun a => p_fraction_bounds a.1 a.2.1 a.2.2) := okW 34 [wd_up_over] uT_r
noncomputable abbrev wd_fraction_bounds : We := wT' e_fraction_bounds x_fraction_bounds
theorem n_fraction_bounds_s {a0 a1 a2 : Nat} {x0 x1 x2 : Int} {K : Nat → Nat → Bool} (h0 : dec a0 = x0) (h1 : dec a1 = x1) (h2 : dec a2 = x2) (h : n_fraction_bounds a0 a1 a2 K = true) : q2' K (p_fraction_bounds x0 x1 x2) := by
  subst h0 h1 h2
  exact x_fraction_bounds (a0, a1, a2) K h
noncomputable def n_more_of (one0 one1 other0 other1 : Nat) (K : Nat → Nat → Bool) : Bool :=
nadd one0 other0 fun t1 =>
nadd one1 other1 fun t3 =>
K t1 t3
theorem x_more_of : OkW q2' (eP eT eT) (fun a K => n_more_of a.1.1 a.1.2 a.2.1 a.2.2 K) (fun a => p_more_of a.1.1 a.1.2 a.2.1 a.2.2) := okW 35 [] uT_r
noncomputable abbrev wd_more_of : We := wT' e_more_of x_more_of
noncomputable def n_less_of (one0 one1 other0 other1 : Nat) (K : Nat → Nat → Bool) : Bool :=
nsub one0 other1 fun t1 =>
nsub one1 other0 fun t3 =>
K t1 t3
theorem x_less_of : OkW q2' (eP eT eT) (fun a K => n_less_of a.1.1 a.1.2 a.2.1 a.2.2 K) (fun a => p_less_of a.1.1 a.1.2 a.2.1 a.2.2) := okW 36 [] uT_r
noncomputable abbrev wd_less_of : We := wT' e_less_of x_less_of
noncomputable def n_contrary_of (one0 one1 : Nat) (K : Nat → Nat → Bool) : Bool :=
nsub (nlit 0) one1 fun t1 =>
nsub (nlit 0) one0 fun t3 =>
K t1 t3
theorem x_contrary_of : OkW q2' eT (fun a K => n_contrary_of a.1 a.2 K) (fun a => p_contrary_of a.1 a.2) := okW 37 [] uT_r
noncomputable abbrev wd_contrary_of : We := wT' e_contrary_of x_contrary_of
noncomputable def n_often (one0 one1 times : Nat) (K : Nat → Nat → Bool) : Bool :=
nmul one0 times fun t1 =>
nmul one1 times fun t3 =>
nmin t1 t3 fun t5 =>
nmax t1 t3 fun t7 =>
K t5 t7
theorem x_often : OkW q2' (eP eT eI) (fun a K => n_often a.1.1 a.1.2 a.2 K) (fun a => p_often a.1.1 a.1.2 a.2) := okW 38 [wd_min, wd_max] uT_r
noncomputable abbrev wd_often : We := wT' e_often x_often
theorem n_often_s {a0 a1 a2 : Nat} {x0 x1 x2 : Int} {K : Nat → Nat → Bool} (h0 : dec a0 = x0) (h1 : dec a1 = x1) (h2 : dec a2 = x2) (h : n_often a0 a1 a2 K = true) : q2' K (p_often x0 x1 x2) := by
  subst h0 h1 h2
  exact x_often ((a0, a1), a2) K h
noncomputable def n_part_of (one0 one1 bottom : Nat) (K : Nat → Nat → Bool) : Bool :=
ndiv one0 bottom fun t1 =>
n_up_over one1 bottom fun t4 =>
K t1 t4
theorem x_part_of : OkW q2' (eP eT eI) (fun a K => n_part_of a.1.1 a.1.2 a.2 K) (fun a => p_part_of a.1.1 a.1.2 a.2) := okW 40 [wd_up_over] uT_r
noncomputable abbrev wd_part_of : We := wT' e_part_of x_part_of
theorem n_part_of_s {a0 a1 a2 : Nat} {x0 x1 x2 : Int} {K : Nat → Nat → Bool} (h0 : dec a0 = x0) (h1 : dec a1 = x1) (h2 : dec a2 = x2) (h : n_part_of a0 a1 a2 K = true) : q2' K (p_part_of x0 x1 x2) := by
  subst h0 h1 h2
  exact x_part_of ((a0, a1), a2) K h
noncomputable def n_fraction_of (realm reale : Nat) (K : Nat → Nat → Bool) : Bool :=
sel (nle (nlit 0) reale) (
nshl realm reale fun t1 =>
K t1 (nlit 1)) (
nsub (nlit 0) reale fun t3 =>
nshl (nlit 1) t3 fun t5 =>
K realm t5)
theorem x_fraction_of : OkW q2' eR (fun a K => n_fraction_of a.1 a.2 K) (fun a => p_fraction_of a.1 a.2) := okW 44 [] uT_r
noncomputable abbrev wd_fraction_of : We := wT' e_fraction_of x_fraction_of
noncomputable def n_far_sum (precision greatm greate smallm smalle : Nat) (K : Nat → Nat → Bool) : Bool :=
nadd precision (nlit 3) fun t1 =>
n_size_of greatm fun t4 =>
nsub t1 t4 fun t5 =>
nmax (nlit 0) t5 fun t7 =>
nshl greatm t7 fun t9 =>
nmul (nlit 2) t9 fun t11 =>
n_sign_of smallm smalle fun t14 =>
nadd t11 t14 fun t15 =>
nsub greate t7 fun t17 =>
nsub t17 (nlit 1) fun t19 =>
n_shifted_round precision t15 t19 fun t22 t23 =>
K t22 t23
theorem x_far_sum : OkW q2' (eP eI (eP eR eR)) (fun a K => n_far_sum a.1 a.2.1.1 a.2.1.2 a.2.2.1 a.2.2.2 K) (fun a => p_far_sum a.1 a.2.1.1 a.2.1.2 a.2.2.1 a.2.2.2) := okW 23 [wd_max, wd_shifted_round, wd_size_of, wd_sign_of] uR_r
noncomputable abbrev wd_far_sum : We := wR' e_far_sum x_far_sum
noncomputable def n_add_reals (precision onem onee otherm othere : Nat) (K : Nat → Nat → Bool) : Bool :=
n_sign_of onem onee fun t2 =>
sel (neq t2 (nlit 0)) (
nadd onem otherm fun t3 =>
nadd onee othere fun t5 =>
n_shifted_round precision t3 t5 fun t8 t9 =>
K t8 t9) (
n_sign_of otherm othere fun t11 =>
sel (neq t11 (nlit 0)) (
nadd onem otherm fun t12 =>
nadd onee othere fun t14 =>
n_shifted_round precision t12 t14 fun t17 t18 =>
K t17 t18) (
n_place_of onem onee fun t20 =>
n_place_of otherm othere fun t22 =>
sel (nle t22 t20) (
n_place_of onem onee fun t24 =>
nsub t24 precision fun t25 =>
nsub t25 (nlit 3) fun t27 =>
nmin onee t27 fun t29 =>
n_place_of otherm othere fun t32 =>
sel (nlt t32 t29) (
n_far_sum precision onem onee otherm othere fun t34 t35 =>
K t34 t35) (
nmin onee othere fun t36 =>
nsub onee t36 fun t38 =>
nshl onem t38 fun t40 =>
nsub othere t36 fun t42 =>
nshl otherm t42 fun t44 =>
nadd t40 t44 fun t46 =>
n_shifted_round precision t46 t36 fun t49 t50 =>
K t49 t50)) (
n_place_of otherm othere fun t52 =>
nsub t52 precision fun t53 =>
nsub t53 (nlit 3) fun t55 =>
nmin othere t55 fun t57 =>
n_place_of onem onee fun t60 =>
sel (nlt t60 t57) (
n_far_sum precision otherm othere onem onee fun t62 t63 =>
K t62 t63) (
nmin othere onee fun t64 =>
nsub othere t64 fun t66 =>
nshl otherm t66 fun t68 =>
nsub onee t64 fun t70 =>
nshl onem t70 fun t72 =>
nadd t68 t72 fun t74 =>
n_shifted_round precision t74 t64 fun t77 t78 =>
K t77 t78))))
theorem x_add_reals : OkW q2' (eP eI (eP eR eR)) (fun a K => n_add_reals a.1 a.2.1.1 a.2.1.2 a.2.2.1 a.2.2.2 K) (fun a => p_add_reals a.1 a.2.1.1 a.2.1.2 a.2.2.1 a.2.2.2) := okW 24 [wd_min, wd_shifted_round, wd_place_of, wd_far_sum, wd_sign_of] uR_r
noncomputable abbrev wd_add_reals : We := wR' e_add_reals x_add_reals
theorem n_add_reals_s {a0 a1 a2 a3 a4 : Nat} {x0 x1 x2 x3 x4 : Int} {K : Nat → Nat → Bool} (h0 : dec a0 = x0) (h1 : dec a1 = x1) (h2 : dec a2 = x2) (h3 : dec a3 = x3) (h4 : dec a4 = x4) (h : n_add_reals a0 a1 a2 a3 a4 K = true) : q2' K (p_add_reals x0 x1 x2 x3 x4) := by
  subst h0 h1 h2 h3 h4
  exact x_add_reals (a0, (a1, a2), (a3, a4)) K h
noncomputable def n_subtract_reals (precision onem onee otherm othere : Nat) (K : Nat → Nat → Bool) : Bool :=
n_negative otherm othere fun t2 t3 =>
n_add_reals precision onem onee t2 t3 fun t5 t6 =>
K t5 t6
theorem x_subtract_reals : OkW q2' (eP eI (eP eR eR)) (fun a K => n_subtract_reals a.1 a.2.1.1 a.2.1.2 a.2.2.1 a.2.2.2 K) (fun a => p_subtract_reals a.1 a.2.1.1 a.2.1.2 a.2.2.1 a.2.2.2) := okW 25 [wd_add_reals, wd_negative] uR_r
theorem n_subtract_reals_s {a0 a1 a2 a3 a4 : Nat} {x0 x1 x2 x3 x4 : Int} {K : Nat → Nat → Bool} (h0 : dec a0 = x0) (h1 : dec a1 = x1) (h2 : dec a2 = x2) (h3 : dec a3 = x3) (h4 : dec a4 = x4) (h : n_subtract_reals a0 a1 a2 a3 a4 K = true) : q2' K (p_subtract_reals x0 x1 x2 x3 x4) := by
  subst h0 h1 h2 h3 h4
  exact x_subtract_reals (a0, (a1, a2), (a3, a4)) K h
noncomputable def n_divide_reals (precision onem onee otherm othere : Nat) (K : Nat → Nat → Bool) : Bool :=
sel (neq otherm (nlit 0)) (
false) (
n_sign_of otherm othere fun t2 =>
nmul onem t2 fun t3 =>
nabs otherm fun t5 =>
n_rounded precision t3 t5 fun t8 t9 =>
nadd t9 onee fun t10 =>
nsub t10 othere fun t12 =>
n_lean t8 t12 fun t15 t16 =>
K t15 t16)
theorem x_divide_reals : OkW q2' (eP eI (eP eR eR)) (fun a K => n_divide_reals a.1 a.2.1.1 a.2.1.2 a.2.2.1 a.2.2.2 K) (fun a => p_divide_reals a.1 a.2.1.1 a.2.1.2 a.2.2.1 a.2.2.2) := okW 26 [wd_rounded, wd_lean, wd_abs, wd_sign_of] uR_r
theorem n_divide_reals_s {a0 a1 a2 a3 a4 : Nat} {x0 x1 x2 x3 x4 : Int} {K : Nat → Nat → Bool} (h0 : dec a0 = x0) (h1 : dec a1 = x1) (h2 : dec a2 = x2) (h3 : dec a3 = x3) (h4 : dec a4 = x4) (h : n_divide_reals a0 a1 a2 a3 a4 K = true) : q2' K (p_divide_reals x0 x1 x2 x3 x4) := by
  subst h0 h1 h2 h3 h4
  exact x_divide_reals (a0, (a1, a2), (a3, a4)) K h
end Mine
end
section
namespace Mine
theorem negS (m : Nat) : Int.negSucc m = -((m + 1 : Nat) : Int) := by rw [Int.negSucc_eq]; omega
theorem fdiv_negS (m n : Nat) (hn : 0 < n) : (Int.negSucc m).fdiv (n : Int) = Int.negSucc (m / n) := by
  rw [Int.fdiv_eq_ediv_of_nonneg _ (Int.natCast_nonneg n)]
  obtain ⟨k, rfl⟩ : ∃ k, n = k + 1 := ⟨n - 1, by omega⟩
  rfl
noncomputable def up (a n : Nat) : Nat := Nat.div (Nat.add a (Nat.sub n 1)) n
noncomputable def sl (f : Bool) (l h : Nat) : Int := cond f (l : Int) (-(h : Int))
noncomputable def sh (f : Bool) (l h : Nat) : Int := cond f (h : Int) (-(l : Int))
theorem up_neg (a n : Nat) (hn : 0 < n) : (0 : Int) - ((0 : Int) - (a : Int)).fdiv (n : Int) = ((up a n : Nat) : Int) := by
  cases a with
  | zero =>
    have e : up 0 n = 0 := by show (0 + (n - 1)) / n = 0; exact Nat.div_eq_of_lt (by omega)
    rw [e]; simp
  | succ p =>
    rw [show (0 : Int) - ((p + 1 : Nat) : Int) = Int.negSucc p by rw [negS]; omega, fdiv_negS p n hn, negS]
    have e : up (p + 1) n = p / n + 1 := by
      show (p + 1 + (n - 1)) / n = _
      rw [show p + 1 + (n - 1) = p + n by omega, Nat.add_div_right _ hn]
    rw [e]; omega
theorem neg_fdiv (a n : Nat) (hn : 0 < n) : (-(a : Int)).fdiv (n : Int) = -((up a n : Nat) : Int) := by
  have := up_neg a n hn
  rw [show (0 : Int) - (a : Int) = -(a : Int) by omega] at this
  omega
theorem Sm.nat {n : Nat} (h : Sm (n : Int)) {m : Nat} (hm : m ≤ n) : Sm (m : Int) := by
  unfold Sm at h ⊢; rw [Int.natAbs_natCast] at h ⊢; omega
theorem Sm.neg {i : Int} (h : Sm i) : Sm (-i) := by unfold Sm at h ⊢; rw [Int.natAbs_neg]; exact h
theorem big_sm {n : Nat} (h : n ≤ big) : Sm (n : Int) := sm_nat (by rw [← big_eq]; exact h)
theorem gshr_nat (x : Int) (w : Nat) : gshr x (w : Int) = some (x.fdiv ((2 ^ w : Nat) : Int)) := by
  rw [gshr_of (by omega), pow_cast]; rfl
theorem ups_pos (a w : Nat) : p_up_shift (a : Int) (w : Int) = some ((up a (2 ^ w) : Nat) : Int) := by
  unfold p_up_shift; rw [gshr_nat, Option.bind_some, up_neg _ _ (two_pos w)]
theorem ups_neg (a w : Nat) : p_up_shift (-(a : Int)) (w : Int) = some (-((a / 2 ^ w : Nat) : Int)) := by
  unfold p_up_shift; rw [gshr_nat, Option.bind_some, show (0 : Int) - -(a : Int) = (a : Int) by omega, fdiv_nat]; congr 1; omega
theorem upo_pos (a n : Nat) (hn : 0 < n) (hs : Sm (n : Int)) : p_up_over (a : Int) (n : Int) = some ((up a n : Nat) : Int) := by
  unfold p_up_over; rw [gdiv_of (by omega) hs, Option.bind_some, up_neg _ _ hn]
theorem upo_neg (a n : Nat) (hn : 0 < n) (hs : Sm (n : Int)) : p_up_over (-(a : Int)) (n : Int) = some (-((a / n : Nat) : Int)) := by
  unfold p_up_over; rw [gdiv_of (by omega) hs, Option.bind_some, show (0 : Int) - -(a : Int) = (a : Int) by omega, fdiv_nat]; congr 1; omega
theorem prod_of {w : Nat} {a b c d x y : Int} {X Y : Int} (h1 : Sm a) (h2 : Sm b) (h3 : Sm c) (h4 : Sm d) (hx : minL (a * c) [a * d, b * c, b * d] = x) (hy : maxL (a * c) [a * d, b * c, b * d] = y)
    (hX : x.fdiv ((2 ^ w : Nat) : Int) = X) (hY : p_up_shift y (w : Int) = some Y) : p_product_of (w : Int) a b c d = some (X, Y) := by
  unfold p_product_of
  rw [gmul_of h1 h3, Option.bind_some, gmul_of h1 h4, Option.bind_some, gmul_of h2 h3, Option.bind_some, gmul_of h2 h4, Option.bind_some, hx, gshr_nat, Option.bind_some, hy, hY, Option.bind_some, hX]
theorem min4_eq (a b c d : Int) : minL a [b, c, d] = min (min (min a b) c) d := rfl
theorem max4_eq (a b c d : Int) : maxL a [b, c, d] = max (max (max a b) c) d := rfl
theorem min_a {a b c d : Int} (h1 : a ≤ b) (h2 : a ≤ c) (h3 : a ≤ d) : minL a [b, c, d] = a := by rw [min4_eq, Int.min_eq_left h1, Int.min_eq_left h2, Int.min_eq_left h3]
theorem min_b {a b c d : Int} (h1 : b ≤ a) (h2 : b ≤ c) (h3 : b ≤ d) : minL a [b, c, d] = b := by rw [min4_eq, Int.min_eq_right h1, Int.min_eq_left h2, Int.min_eq_left h3]
theorem min_d {a b c d : Int} (h1 : d ≤ a) (h2 : d ≤ b) (h3 : d ≤ c) : minL a [b, c, d] = d := by rw [min4_eq]; exact Int.min_eq_right (Int.le_min.mpr ⟨Int.le_min.mpr ⟨h1, h2⟩, h3⟩)
theorem max_a {a b c d : Int} (h1 : b ≤ a) (h2 : c ≤ a) (h3 : d ≤ a) : maxL a [b, c, d] = a := by rw [max4_eq, Int.max_eq_left h1, Int.max_eq_left h2, Int.max_eq_left h3]
theorem max_c {a b c d : Int} (h1 : a ≤ c) (h2 : b ≤ c) (h3 : d ≤ c) : maxL a [b, c, d] = c := by rw [max4_eq, Int.max_eq_right (Int.max_le.mpr ⟨h1, h2⟩), Int.max_eq_left h3]
theorem max_d {a b c d : Int} (h1 : a ≤ d) (h2 : b ≤ d) (h3 : c ≤ d) : maxL a [b, c, d] = d := by rw [max4_eq]; exact Int.max_eq_right (Int.max_le.mpr ⟨Int.max_le.mpr ⟨h1, h2⟩, h3⟩)
theorem ng {m n : Nat} (h : m ≤ n) : -(n : Int) ≤ -(m : Int) := Int.neg_le_neg (Int.ofNat_le.mpr h)
theorem ngm (a b : Nat) : -(a : Int) * (b : Int) = -((a * b : Nat) : Int) := by rw [Int.neg_mul, Int.natCast_mul]
theorem ngn (a b : Nat) : -(a : Int) * -(b : Int) = ((a * b : Nat) : Int) := by rw [Int.neg_mul_neg, Int.natCast_mul]
theorem psm (a b : Nat) : (a : Int) * (b : Int) = ((a * b : Nat) : Int) := (Int.natCast_mul a b).symm
theorem prod_si (f : Bool) {w l h q0 q1 : Nat} (hl : l ≤ h) (hq : q0 ≤ q1) (s1 : Sm (h : Int)) (s2 : Sm (q1 : Int)) :
    p_product_of (w : Int) (sl f l h) (sh f l h) (q0 : Int) (q1 : Int) = some (sl f (l * q0 / 2 ^ w) (up (h * q1) (2 ^ w)), sh f (l * q0 / 2 ^ w) (up (h * q1) (2 ^ w))) := by
  have m1 : l * q0 ≤ l * q1 := Nat.mul_le_mul_left _ hq
  have m2 : l * q0 ≤ h * q0 := Nat.mul_le_mul_right _ hl
  have m3 : l * q1 ≤ h * q1 := Nat.mul_le_mul_right _ hl
  have m4 : h * q0 ≤ h * q1 := Nat.mul_le_mul_left _ hq
  cases f
  · refine prod_of (a := -(h : Int)) (b := -(l : Int)) (x := -((h * q1 : Nat) : Int)) (y := -((l * q0 : Nat) : Int)) s1.neg (s1.nat hl).neg (s2.nat hq) s2 ?_ ?_ (neg_fdiv _ _ (two_pos w)) (ups_neg _ _)
    · rw [ngm, ngm, ngm, ngm]; exact min_b (ng m4) (ng (Nat.le_trans m1 m3)) (ng m3)
    · rw [ngm, ngm, ngm, ngm]; exact max_c (ng m2) (ng (Nat.le_trans m1 m3)) (ng m1)
  · refine prod_of (a := (l : Int)) (b := (h : Int)) (x := ((l * q0 : Nat) : Int)) (y := ((h * q1 : Nat) : Int)) (s1.nat hl) s1 (s2.nat hq) s2 ?_ ?_ (fdiv_nat _ _) (ups_pos _ _)
    · rw [psm, psm, psm, psm]; exact min_a (Int.ofNat_le.mpr m1) (Int.ofNat_le.mpr m2) (Int.ofNat_le.mpr (Nat.le_trans m1 m3))
    · rw [psm, psm, psm, psm]; exact max_d (Int.ofNat_le.mpr (Nat.le_trans m1 m3)) (Int.ofNat_le.mpr m3) (Int.ofNat_le.mpr m4)
theorem prod_sq (f : Bool) {w l h : Nat} (hl : l ≤ h) (s1 : Sm (h : Int)) :
    p_product_of (w : Int) (sl f l h) (sh f l h) (sl f l h) (sh f l h) = some (((l * l / 2 ^ w : Nat) : Int), ((up (h * h) (2 ^ w) : Nat) : Int)) := by
  have m1 : l * l ≤ l * h := Nat.mul_le_mul_left _ hl
  have m2 : l * h ≤ h * h := Nat.mul_le_mul_right _ hl
  have m3 : h * l = l * h := Nat.mul_comm _ _
  cases f
  · refine prod_of (a := -(h : Int)) (b := -(l : Int)) (c := -(h : Int)) (d := -(l : Int)) (x := ((l * l : Nat) : Int)) (y := ((h * h : Nat) : Int)) s1.neg (s1.nat hl).neg s1.neg (s1.nat hl).neg ?_ ?_ (fdiv_nat _ _) (ups_pos _ _)
    · rw [ngn, ngn, ngn, ngn, m3]; exact min_d (Int.ofNat_le.mpr (Nat.le_trans m1 m2)) (Int.ofNat_le.mpr m1) (Int.ofNat_le.mpr m1)
    · rw [ngn, ngn, ngn, ngn, m3]; exact max_a (Int.ofNat_le.mpr m2) (Int.ofNat_le.mpr m2) (Int.ofNat_le.mpr (Nat.le_trans m1 m2))
  · refine prod_of (a := (l : Int)) (b := (h : Int)) (c := (l : Int)) (d := (h : Int)) (x := ((l * l : Nat) : Int)) (y := ((h * h : Nat) : Int)) (s1.nat hl) s1 (s1.nat hl) s1 ?_ ?_ (fdiv_nat _ _) (ups_pos _ _)
    · rw [psm, psm, psm, psm, m3]; exact min_a (Int.ofNat_le.mpr m1) (Int.ofNat_le.mpr m1) (Int.ofNat_le.mpr (Nat.le_trans m1 m2))
    · rw [psm, psm, psm, psm, m3]; exact max_d (Int.ofNat_le.mpr (Nat.le_trans m1 m2)) (Int.ofNat_le.mpr m2) (Int.ofNat_le.mpr m2)
theorem part_si (f : Bool) {l h c : Nat} (hc : 0 < c) (sc : Sm (c : Int)) : p_part_of (sl f l h) (sh f l h) (c : Int) = some (sl f (l / c) (up h c), sh f (l / c) (up h c)) := by
  unfold p_part_of
  rw [gdiv_of (by omega) sc, Option.bind_some]
  cases f
  · simp only [sl, sh, cond_false]
    rw [upo_neg _ _ hc sc, Option.bind_some, neg_fdiv _ _ hc]
  · simp only [sl, sh, cond_true]
    rw [upo_pos _ _ hc sc, Option.bind_some, fdiv_nat]
theorem great_si (f : Bool) {l h : Nat} (hl : l ≤ h) : p_greatest_of (sl f l h) (sh f l h) = some (h : Int) := by
  refine congrArg some ?_
  cases f
  · show max (((-(h : Int)).natAbs : Nat) : Int) (((-(l : Int)).natAbs : Nat) : Int) = h
    rw [Int.natAbs_neg, Int.natAbs_neg]
    exact Int.max_eq_left (Int.ofNat_le.mpr hl)
  · exact Int.max_eq_right (Int.ofNat_le.mpr hl)
theorem contr_si (f : Bool) {l h : Nat} : p_contrary_of (sl f l h) (sh f l h) = some (sl (!f) l h, sh (!f) l h) := by
  unfold p_contrary_of
  cases f <;> simp [sl, sh]
noncomputable def nw (b : Bool) : Int := cond b 1 (-1)
theorem sm_nw (b : Bool) : Sm (nw b) := by cases b <;> exact (by unfold Sm; exact Nat.one_lt_two_pow (by decide))
theorem often_si (f b : Bool) {l h : Nat} (hl : l ≤ h) (s1 : Sm (h : Int)) : p_often (sl f l h) (sh f l h) (nw b) = some (sl (f == b) l h, sh (f == b) l h) := by
  have a1 : Sm (sl f l h) := by cases f; exact s1.neg; exact s1.nat hl
  have a2 : Sm (sh f l h) := by cases f; exact (s1.nat hl).neg; exact s1
  unfold p_often
  rw [gmul_of a1 (sm_nw b), Option.bind_some, gmul_of a2 (sm_nw b), Option.bind_some]
  have hl := Int.ofNat_le.mpr hl
  have key : ∀ x y : Int, x ≤ y → (min (x * nw b) (y * nw b), max (x * nw b) (y * nw b)) = (cond b x (-y), cond b y (-x)) := fun x y q => by
    cases b
    · rw [show nw false = -1 from rfl, Int.mul_neg, Int.mul_neg, Int.mul_one, Int.mul_one, Int.min_eq_right (Int.neg_le_neg q), Int.max_eq_left (Int.neg_le_neg q)]; rfl
    · rw [show nw true = 1 from rfl, Int.mul_one, Int.mul_one, Int.min_eq_left q, Int.max_eq_right q]; rfl
  refine congrArg some ((key _ _ ?_).trans ?_)
  · cases f
    · exact Int.neg_le_neg hl
    · exact hl
  · cases f <;> cases b
    · exact Prod.ext (Int.neg_neg _) (Int.neg_neg _)
    · rfl
    · rfl
    · rfl
noncomputable def tot0 (g : Bool) (al ah bl bh : Nat) : Int := cond g ((al : Int) - bh) ((bl : Int) - ah)
noncomputable def tot1 (g : Bool) (al ah bl bh : Nat) : Int := cond g ((ah : Int) - bl) ((bh : Int) - al)
theorem tot_add0 (g : Bool) (al ah bl bh l h : Nat) : tot0 g al ah bl bh + sl g l h = tot0 g (al + l) (ah + h) bl bh := by
  cases g <;> simp only [tot0, sl, cond_false, cond_true] <;> omega
theorem tot_add1 (g : Bool) (al ah bl bh l h : Nat) : tot1 g al ah bl bh + sh g l h = tot1 g (al + l) (ah + h) bl bh := by
  cases g <;> simp only [tot1, sh, cond_false, cond_true] <;> omega
theorem tot_swap0 (g : Bool) (al ah bl bh : Nat) : tot0 g al ah bl bh = tot0 (!g) bl bh al ah := by cases g <;> rfl
theorem tot_swap1 (g : Bool) (al ah bl bh : Nat) : tot1 g al ah bl bh = tot1 (!g) bl bh al ah := by cases g <;> rfl
noncomputable def ktot (g : Bool) (al ah bl bh : Nat) (K : Nat → Nat → Bool) : Bool :=
  sel g (ck (Nat.ble bh (Nat.add al OF)) (ck (Nat.ble bl (Nat.add ah OF)) (K (Nat.sub (Nat.add al OF) bh) (Nat.sub (Nat.add ah OF) bl))))
    (ck (Nat.ble ah (Nat.add bl OF)) (ck (Nat.ble al (Nat.add bh OF)) (K (Nat.sub (Nat.add bl OF) ah) (Nat.sub (Nat.add bh OF) al))))
theorem ktot_s {g : Bool} {al ah bl bh : Nat} {K : Nat → Nat → Bool} (h : ktot g al ah bl bh K = true) : ∃ c d, tot0 g al ah bl bh = dec c ∧ tot1 g al ah bl bh = dec d ∧ K c d = true := by
  rcases sel_s h with ⟨h1, h⟩ | ⟨h1, h⟩ <;> subst h1 <;> obtain ⟨h2, h⟩ := ckb h <;> obtain ⟨h3, h⟩ := ckb h <;> simp only [Nat.add_eq] at h2 h3
  · exact ⟨_, _, by unfold tot0 dec; simp only [cond_true, Nat.add_eq, Nat.sub_eq]; omega, by unfold tot1 dec; simp only [cond_true, Nat.add_eq, Nat.sub_eq]; omega, h⟩
  · exact ⟨_, _, by unfold tot0 dec; simp only [cond_false, Nat.add_eq, Nat.sub_eq]; omega, by unfold tot1 dec; simp only [cond_false, Nat.add_eq, Nat.sub_eq]; omega, h⟩
noncomputable def nsplit (a b : Nat) (P : Bool → Nat → Nat → Bool) : Bool := sel (Nat.ble OF a) (ck (Nat.ble OF b) (P true (Nat.sub a OF) (Nat.sub b OF))) (ck (Nat.ble b OF) (P false (Nat.sub OF b) (Nat.sub OF a)))
theorem nsplit_s {a b : Nat} {P : Bool → Nat → Nat → Bool} (hk : nsplit a b P = true) : ∃ f l h, dec a = sl f l h ∧ dec b = sh f l h ∧ P f l h = true := by
  rcases selb hk with ⟨h1, hk⟩ | ⟨h1, hk⟩ <;> obtain ⟨h2, hk⟩ := ckb hk
  · exact ⟨true, _, _, dec_pos h1, dec_pos h2, hk⟩
  · exact ⟨false, _, _, dec_neg (by omega), dec_neg h2, hk⟩
theorem gshl_one (w : Nat) (hw : w ≤ 100000) : gshl 1 (w : Int) = some ((2 ^ w : Nat) : Int) := by
  rw [gshl_of (by unfold Sm; exact Nat.one_lt_two_pow (by decide)) (by omega) (by omega), Int.one_mul, Int.toNat_natCast, pow_cast]
theorem sm_two : Sm 2 := by unfold Sm; exact Nat.lt_of_lt_of_le (show 2 < 2 ^ 2 by decide) (Nat.pow_le_pow_right (by decide) (by decide))
theorem sm_one {h : Nat} (h1 : h ≤ 1) : Sm (h : Int) := by
  unfold Sm; rw [Int.natAbs_natCast]
  exact Nat.lt_of_le_of_lt h1 (Nat.one_lt_two_pow (by decide))
noncomputable def nwid (x y h : Nat) (K : Nat → Nat → Bool) : Bool := (fun u => ck (Nat.ble u x) (K (Nat.sub x u) (Nat.add y u))) (Nat.add (Nat.mul 2 h) 2)
noncomputable def OK2 (K : Nat → Nat → Bool) (o : Option (Int × Int)) : Prop := ∃ r, o = some r ∧ ∃ c d, r = (dec c, dec d) ∧ K c d = true
theorem bnP {α β : Type} {P : Option β → Prop} {o : Option α} {x : α} {k : α → Option β} (h : o = some x) (q : P (k x)) : P (o.bind k) := by rw [h]; exact q
theorem ifT {α : Type} {P : Option α → Prop} {c : Bool} {X Y : Option α} (h : c = true) (q : P X) : P (if c = true then X else Y) := by rw [if_pos h]; exact q
theorem ifF {α : Type} {P : Option α → Prop} {c : Bool} {X Y : Option α} (h : c = false) (q : P Y) : P (if c = true then X else Y) := by rw [h]; exact q
theorem lt_f {h : Nat} (h2 : h ≤ 1) : decide (1 < (h : Int)) = false := decide_eq_false (by omega)
theorem lt_t {h : Nat} (h2 : ¬ h ≤ 1) : decide (1 < (h : Int)) = true := decide_eq_true (by omega)
theorem nwid_s {x y h : Nat} {K : Nat → Nat → Bool} (hh : h ≤ 1) (hk : nwid x y h K = true) : OK2 K ((gmul 2 (h : Int)).bind fun t => (p_widened (dec x) (dec y) (t + 2)).bind fun (p : Int × Int) => match p with | (a, b) => some (a, b)) := by
  obtain ⟨h1, hk⟩ := ckb hk
  refine bnP (gmul_of sm_two (sm_one hh)) (bnP rfl ?_)
  simp only [Nat.add_eq, Nat.mul_eq] at h1
  exact ⟨_, rfl, _, _, by unfold dec; simp only [Nat.add_eq, Nat.mul_eq, Nat.sub_eq]; exact Prod.ext (by dsimp only; omega) (by dsimp only; omega), hk⟩
theorem big_10 : 100100000 ≤ big := by rw [big_eq]; exact Nat.le_trans (show 100100000 ≤ 2 ^ 30 by decide) (Nat.pow_le_pow_right (by decide) (by decide))
theorem not_sel (g : Bool) : sel g false true = !g := by cases g <;> rfl
noncomputable def kwav (W q0 q1 : Nat) (K : Nat → Nat → Nat → Bool) (n : Nat) : Bool → Nat → Nat → Nat → Nat → Nat → Nat → Nat → Bool :=
  @Nat.rec (fun _ => Bool → Nat → Nat → Nat → Nat → Nat → Nat → Nat → Bool) (fun _ _ _ _ _ _ _ _ => false)
    (fun _ ih f l h al ah bl bh c => ck (Nat.ble l h) (sel (Nat.ble h 1) (ktot f al ah bl bh fun x y => K x y h)
      (ck (Nat.ble h big) (ck (Nat.ble 1 c) (ck (Nat.ble c 10000)
        ((fun d => (fun l' h' => ih (sel f false true) l' h' (Nat.add bl l') (Nat.add bh h') al ah (Nat.add c 2)) (Nat.div (Nat.div (Nat.mul l q0) W) d) (up (up (Nat.mul h q1) W) d)) (Nat.mul c (Nat.add c 1)))))))) n
theorem kwav_s {w q0 q1 : Nat} (hq : q0 ≤ q1) (sq : Sm (q1 : Int)) {K : Nat → Nat → Nat → Bool} {post : Int → Int → Int → Int → Int → Option (Int × Int)} {P : Option (Int × Int) → Prop}
    (hp : ∀ c x y g l h, l ≤ h → h ≤ 1 → K x y h = true → P (post c (dec x) (dec y) (sl g l h) (sh g l h))) : ∀ (n : Nat) (f : Bool) (l h al ah bl bh c : Nat), kwav (2 ^ w) q0 q1 K n f l h al ah bl bh c = true →
    P (p_wave_series_loop (w : Int) (q0 : Int) (q1 : Int) post n (c : Int) (tot0 f al ah bl bh) (tot1 f al ah bl bh) (sl f l h) (sh f l h))
  | 0, _, _, _, _, _, _, _, _, hk => no hk
  | n + 1, f, l, h, al, ah, bl, bh, c, hk => by
    obtain ⟨h1, hk⟩ := ckb (show ck (Nat.ble l h) _ = true from hk)
    show P (s_wave_series _ _ _ post (p_wave_series_loop _ _ _ post n) _ _ _ _ _ )
    unfold s_wave_series
    refine bnP (P := P) (great_si f h1) ?_
    rcases selb hk with ⟨h2, hk⟩ | ⟨h2, hk⟩
    · refine ifF (P := P) (lt_f h2) ?_
      obtain ⟨x, y, e1, e2, hk⟩ := ktot_s hk
      rw [e1, e2]
      exact hp _ x y f l h h1 h2 hk
    · obtain ⟨h3, hk⟩ := ckb hk
      obtain ⟨h4, hk⟩ := ckb hk
      obtain ⟨h5, hk⟩ := ckb hk
      have s5 : Sm ((c * (c + 1) : Nat) : Int) := big_sm (Nat.le_trans (Nat.mul_le_mul h5 (Nat.add_le_add_right h5 1)) (Nat.le_trans (by decide) big_10))
      have e1 : gmul (c : Int) ((c : Int) + 1) = some ((c * (c + 1) : Nat) : Int) := gmul_of (s5.nat (Nat.le_mul_of_pos_right _ (Nat.succ_pos _))) (s5.nat (Nat.le_mul_of_pos_left _ h4))
      refine ifT (P := P) (lt_t h2) (bnP (prod_si f h1 hq (big_sm h3) sq) (bnP e1 (bnP (part_si f (Nat.mul_pos h4 (Nat.succ_pos _)) s5) (bnP (contr_si f) (bnP rfl ?_)))))
      have := kwav_s hq sq hp n _ _ _ _ _ _ _ _ hk
      rw [not_sel] at this
      show P (p_wave_series_loop (w : Int) (q0 : Int) (q1 : Int) post n ((c : Int) + 2) (tot0 f al ah bl bh + sl (!f) _ _) (tot1 f al ah bl bh + sh (!f) _ _) (sl (!f) _ _) (sh (!f) _ _))
      rw [tot_swap0 f, tot_swap1 f, tot_add0, tot_add1]
      exact this
noncomputable def n_wave_series (work r0 r1 f0 f1 count : Nat) (K : Nat → Nat → Bool) : Bool :=
  ck (Nat.ble OF work) (ck (Nat.ble OF count) (nsplit r0 r1 fun f l h => ck (Nat.ble l h) (ck (Nat.ble h big)
    ((fun W => (fun q0 q1 => ck (Nat.ble q0 q1) (ck (Nat.ble q1 big) (nsplit f0 f1 fun g l' h' =>
      kwav W q0 q1 (fun x y z => nwid x y z K) 400 g l' h' l' h' 0 0 (Nat.sub count OF))))
      (Nat.div (Nat.mul l l) W) (up (Nat.mul h h) W)) (Nat.pow 2 (Nat.sub work OF))))))
theorem tot_0 (f : Bool) (l h : Nat) : tot0 f l h 0 0 = sl f l h := by cases f <;> simp [tot0, sl]
theorem tot_1 (f : Bool) (l h : Nat) : tot1 f l h 0 0 = sh f l h := by cases f <;> simp [tot1, sh]
theorem n_wave_series_s {work r0 r1 f0 f1 count : Nat} {K : Nat → Nat → Bool} (hk : n_wave_series work r0 r1 f0 f1 count K = true) : OK2 K (p_wave_series (dec work) (dec r0) (dec r1) (dec f0) (dec f1) (dec count)) := by
  obtain ⟨h0, hk⟩ := ckb (show ck (Nat.ble OF work) _ = true from hk)
  obtain ⟨h00, hk⟩ := ckb hk
  obtain ⟨f, l, h, e1, e2, hk⟩ := nsplit_s hk
  obtain ⟨h1, hk⟩ := ckb hk
  obtain ⟨h2, hk⟩ := ckb hk
  obtain ⟨h3, hk⟩ := ckb hk
  obtain ⟨h4, hk⟩ := ckb hk
  obtain ⟨g, l', h', e3, e4, hk⟩ := nsplit_s hk
  rw [e1, e2, e3, e4, dec_pos h0, dec_pos h00]
  refine bnP (prod_sq f h1 (big_sm h2)) ?_
  have := kwav_s (w := work - OF) (post := q_wave_series) (P := OK2 K) h3 (big_sm h4) (fun c x y g l h h1 h2 hk => bnP (great_si g h1) (nwid_s h2 hk)) 400 g l' h' l' h' 0 0 (count - OF) hk
  rw [tot_0, tot_1] at this
  exact this
noncomputable def kexp (W q0 q1 : Nat) (K : Nat → Nat → Nat → Bool) (n : Nat) : Nat → Nat → Nat → Nat → Nat → Bool :=
  @Nat.rec (fun _ => Nat → Nat → Nat → Nat → Nat → Bool) (fun _ _ _ _ _ => false)
    (fun _ ih l h tl th c => ck (Nat.ble l h) (sel (Nat.ble h 1) (K (Nat.add tl OF) (Nat.add th OF) h)
      (ck (Nat.ble h big) (ck (Nat.ble 1 c) (ck (Nat.ble c 10000)
        ((fun l' h' => ih l' h' (Nat.add tl l') (Nat.add th h') (Nat.add c 1)) (Nat.div (Nat.div (Nat.mul l q0) W) c) (up (up (Nat.mul h q1) W) c))))))) n
theorem kexp_s {w q0 q1 : Nat} (hq : q0 ≤ q1) (sq : Sm (q1 : Int)) {K : Nat → Nat → Nat → Bool} {post : Int → Int → Int → Int → Int → Option (Int × Int)} {P : Option (Int × Int) → Prop}
    (hp : ∀ (c : Int) x y (l h : Nat), l ≤ h → h ≤ 1 → K x y h = true → P (post (dec x) (dec y) (l : Int) (h : Int) c)) : ∀ (n l h tl th c : Nat), kexp (2 ^ w) q0 q1 K n l h tl th c = true →
    P (p_exp_series_loop (w : Int) (q0 : Int) (q1 : Int) post n (tl : Int) (th : Int) (l : Int) (h : Int) (c : Int))
  | 0, _, _, _, _, _, hk => no hk
  | n + 1, l, h, tl, th, c, hk => by
    obtain ⟨h1, hk⟩ := ckb (show ck (Nat.ble l h) _ = true from hk)
    show P (s_exp_series _ _ _ post (p_exp_series_loop _ _ _ post n) _ _ _ _ _ )
    unfold s_exp_series
    refine bnP (P := P) (great_si true h1) ?_
    rcases selb hk with ⟨h2, hk⟩ | ⟨h2, hk⟩
    · refine ifF (P := P) (lt_f h2) ?_
      have := hp c (tl + OF) (th + OF) l h h1 h2 hk
      rw [dec_of, dec_of] at this
      exact this
    · obtain ⟨h3, hk⟩ := ckb hk
      obtain ⟨h4, hk⟩ := ckb hk
      obtain ⟨h5, hk⟩ := ckb hk
      exact ifT (P := P) (lt_t h2) (bnP (prod_si true h1 hq (big_sm h3) sq) (bnP (part_si true h4 (big_sm (Nat.le_trans h5 (Nat.le_trans (by decide) big_10)))) (bnP rfl (kexp_s hq sq hp n _ _ _ _ _ hk))))
noncomputable def n_exp_series (work r0 r1 : Nat) (K : Nat → Nat → Bool) : Bool :=
  ck (Nat.ble OF work) (ck (Nat.ble work (Nat.add OF 1000)) (ck (Nat.ble OF r0) (ck (Nat.ble r0 r1) (ck (Nat.ble r1 big)
    ((fun W => kexp W (Nat.sub r0 OF) (Nat.sub r1 OF) (fun x y z => nwid x y z K) 400 W W W W 1) (Nat.pow 2 (Nat.sub work OF)))))))
theorem sub_le {a b c : Nat} (h : a ≤ b) (h' : b ≤ c) : a - OF ≤ c := Nat.le_trans (Nat.sub_le _ _) (Nat.le_trans h h')
theorem sub_1000 {w : Nat} (h : w ≤ OF + 1000) : w - OF ≤ 100000 := Nat.le_trans (Nat.sub_le_of_le_add (Nat.add_comm _ _ ▸ h)) (by decide)
theorem n_exp_series_s {work r0 r1 : Nat} {K : Nat → Nat → Bool} (hk : n_exp_series work r0 r1 K = true) : OK2 K (p_exp_series (dec work) (dec r0) (dec r1)) := by
  obtain ⟨h0, hk⟩ := ckb (show ck (Nat.ble OF work) _ = true from hk)
  obtain ⟨h00, hk⟩ := ckb hk
  obtain ⟨h1, hk⟩ := ckb hk
  obtain ⟨h2, hk⟩ := ckb hk
  obtain ⟨h3, hk⟩ := ckb hk
  rw [dec_pos h0, dec_pos h1, dec_pos (Nat.le_trans h1 h2)]
  have g := gshl_one _ (sub_1000 h00)
  exact bnP g (bnP g (kexp_s (w := work - OF) (q0 := r0 - OF) (q1 := r1 - OF) (post := q_exp_series) (P := OK2 K) (Nat.sub_le_sub_right h2 _) (big_sm (sub_le (Nat.le_refl _) h3)) (fun c x y l h h1 h2 hk => bnP (great_si true h1) (nwid_s h2 hk)) 400 _ _ _ _ 1 hk))
noncomputable def kodd (s : Bool) (W q0 q1 : Nat) (K : Nat → Nat → Nat → Bool) (n : Nat) : Bool → Nat → Nat → Nat → Nat → Nat → Nat → Nat → Bool :=
  @Nat.rec (fun _ => Bool → Nat → Nat → Nat → Nat → Nat → Nat → Nat → Bool) (fun _ _ _ _ _ _ _ _ => false)
    (fun _ ih g l h al ah bl bh c => ck (Nat.ble l h) (sel (Nat.ble h 1) (ktot g al ah bl bh fun x y => K x y h)
      (ck (Nat.ble h big) (ck (Nat.ble c 10000)
        ((fun e => (fun l' h' => (fun l2 h2 => ck (Nat.ble l2 h2) (ck (Nat.ble h2 big) (sel s (ih g l' h' (Nat.add al l2) (Nat.add ah h2) bl bh e) (ih (sel g false true) l' h' (Nat.add bl l2) (Nat.add bh h2) al ah e)))) (Nat.div l' e) (up h' e))
          (Nat.div (Nat.mul l q0) W) (up (Nat.mul h q1) W)) (Nat.add c 2)))))) n
theorem nw_mul (a b : Bool) : gmul (nw a) (nw b) = some (nw (a == b)) := by
  rw [gmul_of (sm_nw a) (sm_nw b)]
  cases a <;> cases b <;> rfl
theorem eq_t (f g : Bool) : (f == ((f == g) == true)) = g := by cases f <;> cases g <;> rfl
theorem eq_f (f g : Bool) : (f == ((f == g) == false)) = !g := by cases f <;> cases g <;> rfl
theorem eq_t' (f g : Bool) : ((f == g) == true) = (f == g) := by cases f <;> cases g <;> rfl
theorem eq_f' (f g : Bool) : ((f == g) == false) = (f == !g) := by cases f <;> cases g <;> rfl
theorem kodd_s {w q0 q1 : Nat} (hq : q0 ≤ q1) (sq : Sm (q1 : Int)) {s f : Bool} {K : Nat → Nat → Nat → Bool} {post : Int → Int → Int → Int → Int → Int → Option (Int × Int)} {P : Option (Int × Int) → Prop}
    (hp : ∀ (c z : Int) x y l h, l ≤ h → h ≤ 1 → K x y h = true → P (post (sl f l h) (sh f l h) (dec x) (dec y) c z)) : ∀ (n : Nat) (g : Bool) (l h al ah bl bh c : Nat), kodd s (2 ^ w) q0 q1 K n g l h al ah bl bh c = true →
    P (p_odd_series_loop (w : Int) (nw s) (q0 : Int) (q1 : Int) post n (sl f l h) (sh f l h) (tot0 g al ah bl bh) (tot1 g al ah bl bh) (c : Int) (nw (f == g)))
  | 0, _, _, _, _, _, _, _, _, hk => no hk
  | n + 1, g, l, h, al, ah, bl, bh, c, hk => by
    obtain ⟨h1, hk⟩ := ckb (show ck (Nat.ble l h) _ = true from hk)
    show P (s_odd_series _ _ _ _ post (p_odd_series_loop _ _ _ _ post n) _ _ _ _ _ _ )
    unfold s_odd_series
    refine bnP (P := P) (great_si f h1) ?_
    rcases selb hk with ⟨h2, hk⟩ | ⟨h2, hk⟩
    · refine ifF (P := P) (lt_f h2) ?_
      obtain ⟨x, y, e1, e2, hk⟩ := ktot_s hk
      rw [e1, e2]
      exact hp _ _ x y l h h1 h2 hk
    · obtain ⟨h3, hk⟩ := ckb hk
      obtain ⟨h4, hk⟩ := ckb hk
      obtain ⟨h5, hk⟩ := ckb hk
      obtain ⟨h6, hk⟩ := ckb hk
      refine ifT (P := P) (lt_t h2) (bnP (prod_si f h1 hq (big_sm h3) sq) (bnP (nw_mul _ _) (bnP (part_si f (Nat.succ_pos _) (big_sm (Nat.le_trans (Nat.add_le_add_right h4 2) (Nat.le_trans (by decide) big_10)))) (bnP (often_si f _ h5 (big_sm h6)) (bnP rfl ?_)))))
      show P (p_odd_series_loop (w : Int) (nw s) (q0 : Int) (q1 : Int) post n (sl f _ _) (sh f _ _) (tot0 g al ah bl bh + sl (f == ((f == g) == s)) _ _) (tot1 g al ah bl bh + sh (f == ((f == g) == s)) _ _) ((c + 2 : Nat) : Int) (nw ((f == g) == s)))
      cases s
      · have := kodd_s (f := f) hq sq hp n _ _ _ _ _ _ _ _ hk
        rw [not_sel] at this
        rw [eq_f, tot_swap0 g, tot_swap1 g, tot_add0, tot_add1, eq_f']
        exact this
      · have := kodd_s (f := f) hq sq hp n _ _ _ _ _ _ _ _ hk
        rw [eq_t, tot_add0, tot_add1, eq_t']
        exact this
noncomputable def n_odd_series (work top bottom sign : Nat) (K : Nat → Nat → Bool) : Bool :=
  ck (Nat.ble OF work) (n_fraction_bounds work top bottom fun x0 x1 => nsplit x0 x1 fun f l h => ck (Nat.ble l h) (ck (Nat.ble h big)
    ((fun W => (fun q0 q1 => ck (Nat.ble q0 q1) (ck (Nat.ble q1 big)
      (sel (Nat.beq sign (nlit 1)) (kodd true W q0 q1 (fun x y z => nwid x y z K) 400 f l h l h 0 0 1)
        (ck (Nat.beq sign (nng 1)) (kodd false W q0 q1 (fun x y z => nwid x y z K) 400 f l h l h 0 0 1)))))
      (Nat.div (Nat.mul l l) W) (up (Nat.mul h h) W)) (Nat.pow 2 (Nat.sub work OF)))))
theorem beq_self' (f : Bool) : (f == f) = true := by cases f <;> rfl
theorem n_odd_series_s {work top bottom sign : Nat} {K : Nat → Nat → Bool} (hk : n_odd_series work top bottom sign K = true) : OK2 K (p_odd_series (dec work) (dec top) (dec bottom) (dec sign)) := by
  obtain ⟨h0, hk⟩ := ckb (show ck (Nat.ble OF work) _ = true from hk)
  obtain ⟨_, hf, x0, x1, rfl, hk⟩ := n_fraction_bounds_s rfl rfl rfl hk
  obtain ⟨f, l, h, e1, e2, hk⟩ := nsplit_s hk
  obtain ⟨h1, hk⟩ := ckb hk
  obtain ⟨h2, hk⟩ := ckb hk
  obtain ⟨h3, hk⟩ := ckb hk
  obtain ⟨h4, hk⟩ := ckb hk
  rw [e1, e2] at hf
  refine bnP hf ?_
  have fin : ∀ s, kodd s (2 ^ (work - OF)) (l * l / 2 ^ (work - OF)) (up (h * h) (2 ^ (work - OF))) (fun x y z => nwid x y z K) 400 f l h l h 0 0 1 = true → OK2 K ((p_product_of (dec work) (sl f l h) (sh f l h) (sl f l h) (sh f l h)).bind fun (t5, t6) => p_odd_series_loop (dec work) (nw s) t5 t6 q_odd_series 400 (sl f l h) (sh f l h) (sl f l h) (sh f l h) 1 1) := fun s hk => by
    rw [dec_pos h0]
    refine bnP (prod_sq f h1 (big_sm h2)) ?_
    have := kodd_s (w := work - OF) (f := f) (post := q_odd_series) (P := OK2 K) h3 (big_sm h4) (fun c z x y l h h1 h2 hk => bnP (great_si f h1) (nwid_s h2 hk)) 400 f l h l h 0 0 1 hk
    rw [tot_0, tot_1, beq_self'] at this
    exact this
  rcases selq hk with ⟨h5, hk⟩ | ⟨_, hk⟩
  · rw [h5, dec_lit]; exact fin true hk
  · obtain ⟨h5, hk⟩ := ckq hk
    rw [h5, dec_m1]; exact fin false hk
noncomputable def kinv (s : Bool) (nn : Nat) (K : Nat → Nat → Bool) (n : Nat) : Bool → Nat → Nat → Nat → Nat → Nat → Bool :=
  @Nat.rec (fun _ => Bool → Nat → Nat → Nat → Nat → Nat → Bool) (fun _ _ _ _ _ _ => false)
    (fun _ ih f P A B e t => sel (Nat.beq P 0) (sel f (ck (Nat.ble B (Nat.add A OF)) (K (Nat.sub (Nat.add A OF) B) t)) (ck (Nat.ble A (Nat.add B OF)) (K (Nat.sub (Nat.add B OF) A) t)))
      (ck (Nat.ble 1 e) (ck (Nat.ble e 10000) ((fun q => ck (Nat.ble q big) (sel s (ih f (Nat.div P nn) (Nat.add A q) B (Nat.add e 2) (Nat.add t 1)) (ih (sel f false true) (Nat.div P nn) B (Nat.add A q) (Nat.add e 2) (Nat.add t 1)))) (Nat.div P e))))) n
noncomputable def tt (f : Bool) (A B : Nat) : Int := cond f ((A : Int) - B) ((B : Int) - A)
theorem tt_f (f : Bool) (A B q : Nat) : tt f A B + nw f * (q : Int) = tt (!f) B (A + q) := by
  cases f <;> simp only [tt, nw, cond_true, cond_false, Bool.not_true, Bool.not_false, Int.one_mul, Int.neg_mul] <;> omega
theorem tt_t (f : Bool) (A B q : Nat) : tt f A B + nw f * (q : Int) = tt f (A + q) B := by
  cases f <;> simp only [tt, nw, cond_true, cond_false, Int.one_mul, Int.neg_mul] <;> omega
theorem kinv_s {num : Nat} (h0 : 0 < num) (sn : Sm (num : Int)) (snn : Sm ((num * num : Nat) : Int)) {s : Bool} {K : Nat → Nat → Bool} {post : Int → Int → Int → Int → Int → Option (Int × Int)} {P : Option (Int × Int) → Prop}
    (hp : ∀ (p e x : Int) (T t : Nat), K T t = true → P (post p (dec T) e x (t : Int))) : ∀ (n : Nat) (f : Bool) (p A B e t : Nat), kinv s (num * num) K n f p A B e t = true →
    P (p_inverse_series_loop (num : Int) (nw s) post n (p : Int) (tt f A B) (e : Int) (nw f) (t : Int))
  | 0, _, _, _, _, _, _, hk => no hk
  | n + 1, f, p, A, B, e, t, hk => by
    show P (s_inverse_series _ _ post (p_inverse_series_loop _ _ post n) _ _ _ _ _)
    unfold s_inverse_series
    rcases selq (show sel (Nat.beq p 0) _ _ = true from hk) with ⟨h2, hk⟩ | ⟨hP, hk⟩
    · subst h2
      refine ifF (P := P) (c := decide (0 < ((0 : Nat) : Int))) (by decide) ?_
      rcases sel_s hk with ⟨h1, hk⟩ | ⟨h1, hk⟩ <;> subst h1 <;> obtain ⟨h3, hk⟩ := ckb hk
      · rw [show tt true A B = dec (Nat.sub (Nat.add A OF) B) by unfold tt dec; simp only [cond_true, Nat.add_eq, Nat.sub_eq] at h3 ⊢; omega]; exact hp _ _ _ _ t hk
      · rw [show tt false A B = dec (Nat.sub (Nat.add B OF) A) by unfold tt dec; simp only [cond_false, Nat.add_eq, Nat.sub_eq] at h3 ⊢; omega]; exact hp _ _ _ _ t hk
    · obtain ⟨h3, hk⟩ := ckb hk
      obtain ⟨h4, hk⟩ := ckb hk
      obtain ⟨h5, hk⟩ := ckb hk
      have g1 : gdiv (p : Int) (e : Int) = some ((p / e : Nat) : Int) := by rw [gdiv_of (by omega) (big_sm (Nat.le_trans h4 (Nat.le_trans (by decide) big_10))), fdiv_nat]
      have g2 : gmul (num : Int) (num : Int) = some ((num * num : Nat) : Int) := gmul_of sn sn
      have g3 : gdiv (p : Int) ((num * num : Nat) : Int) = some ((p / (num * num) : Nat) : Int) := by rw [gdiv_of (by have := Nat.mul_pos h0 h0; omega) snn, fdiv_nat]
      refine ifT (P := P) (decide_eq_true (by omega)) (bnP g1 (bnP (gmul_of (sm_nw f) (big_sm h5)) (bnP g2 (bnP g3 (bnP (nw_mul f s) ?_)))))
      cases s
      · have := kinv_s h0 sn snn hp n _ _ _ _ _ _ hk
        rw [not_sel] at this
        rw [show (f == false) = !f by cases f <;> rfl]
        show P (p_inverse_series_loop _ _ post n _ (tt f A B + nw f * ((p / e : Nat) : Int)) _ _ _)
        rw [tt_f]
        exact this
      · have := kinv_s h0 sn snn hp n _ _ _ _ _ _ hk
        rw [show (f == true) = f by cases f <;> rfl]
        show P (p_inverse_series_loop _ _ post n _ (tt f A B + nw f * ((p / e : Nat) : Int)) _ _ _)
        rw [tt_t]
        exact this
noncomputable def ninvS (s : Bool) (work num : Nat) (K : Nat → Nat → Bool) : Bool :=
  ck (Nat.ble OF work) (ck (Nat.ble work (Nat.add OF 1000)) (ck (Nat.ble (Nat.add OF 1) num) (ck (Nat.ble num (Nat.add OF 1000)) ((fun m =>
    kinv s (Nat.mul m m) (fun x t => ck (Nat.ble t 1000) ((fun u => ck (Nat.ble u x) (K (Nat.sub x u) (Nat.add x u))) (Nat.add (Nat.mul 2 t) 4))) 400 true (Nat.div (Nat.pow 2 (Nat.sub work OF)) m) 0 0 1 0) (Nat.sub num OF)))))
theorem ninvS_s {s : Bool} {work num : Nat} {K : Nat → Nat → Bool} (hk : ninvS s work num K = true) : OK2 K (p_inverse_series (dec work) (dec num) (nw s)) := by
  obtain ⟨h0, hk⟩ := ckb (show ck (Nat.ble OF work) _ = true from hk)
  obtain ⟨h00, hk⟩ := ckb hk
  obtain ⟨h1, hk⟩ := ckb hk
  obtain ⟨h2, hk⟩ := ckb hk
  have n1000 : num - OF ≤ 1000 := Nat.sub_le_of_le_add (Nat.add_comm _ _ ▸ h2)
  have sm : Sm ((num - OF : Nat) : Int) := big_sm (Nat.le_trans n1000 (Nat.le_trans (by decide) big_10))
  have smm : Sm (((num - OF) * (num - OF) : Nat) : Int) := big_sm (Nat.le_trans (Nat.mul_le_mul n1000 n1000) (Nat.le_trans (by decide) big_10))
  rw [dec_pos h0, dec_pos (Nat.le_trans (Nat.le_succ _) h1)]
  have np : 0 < num - OF := Nat.sub_pos_of_lt h1
  refine bnP (gshl_one _ (sub_1000 h00)) (bnP (show gdiv _ _ = some ((2 ^ (work - OF) / (num - OF) : Nat) : Int) by rw [gdiv_of (by omega) sm, fdiv_nat]) ?_)
  refine kinv_s (num := num - OF) (post := q_inverse_series) (P := OK2 K) np sm smm (fun p e x T t hk => ?_) 400 true (2 ^ (work - OF) / (num - OF)) 0 0 1 0 hk
  obtain ⟨h3, hk⟩ := ckb hk
  obtain ⟨h4, hk⟩ := ckb hk
  refine bnP (gmul_of sm_two (big_sm (Nat.le_trans h3 (Nat.le_trans (by decide) big_10)))) (bnP rfl ?_)
  simp only [Nat.add_eq, Nat.mul_eq] at h4
  exact ⟨_, rfl, _, _, by unfold dec; simp only [Nat.add_eq, Nat.mul_eq, Nat.sub_eq]; exact Prod.ext (by dsimp only; omega) (by dsimp only; omega), hk⟩
noncomputable def n_inverse_series (work num sign : Nat) (K : Nat → Nat → Bool) : Bool := sel (Nat.beq sign (nlit 1)) (ninvS true work num K) (ck (Nat.beq sign (nng 1)) (ninvS false work num K))
theorem n_inverse_series_s {work num sign : Nat} {K : Nat → Nat → Bool} (hk : n_inverse_series work num sign K = true) : OK2 K (p_inverse_series (dec work) (dec num) (dec sign)) := by
  rcases selq hk with ⟨h5, hk⟩ | ⟨_, hk⟩
  · rw [h5, dec_lit]; exact ninvS_s (s := true) hk
  · obtain ⟨h5, hk⟩ := ckq hk
    rw [h5, dec_m1]; exact ninvS_s (s := false) hk
noncomputable def kroot (num : Nat) (K : Nat → Bool) (n : Nat) : Nat → Nat → Bool :=
  @Nat.rec (fun _ => Nat → Nat → Bool) (fun _ _ => false)
    (fun _ ih a b => sel (Nat.ble a b) (K a) (ck (Nat.ble 1 b) (ck (Nat.ble b big) (ih b (Nat.div (Nat.add b (Nat.div num b)) 2))))) n
noncomputable def OK1 (K : Nat → Bool) (o : Option Int) : Prop := ∃ r, o = some r ∧ ∃ c, r = dec c ∧ K c = true
theorem half_n (a : Nat) : gdiv (a : Int) 2 = some ((a / 2 : Nat) : Int) := by
  rw [gdiv_of (by decide) sm_two, show (2 : Int) = ((2 : Nat) : Int) from rfl, fdiv_nat]
theorem kroot_s {num : Nat} {K : Nat → Bool} {post : Int → Int → Option Int} {P : Option Int → Prop} (hp : ∀ (a : Nat) (b : Int), K a = true → P (post (a : Int) b)) : ∀ (n a b : Nat), kroot num K n a b = true → P (p_root_below_loop (num : Int) post n (a : Int) (b : Int))
  | 0, _, _, hk => no hk
  | n + 1, a, b, hk => by
    show P (s_root_below _ post (p_root_below_loop _ post n) _ _)
    unfold s_root_below
    rcases selb (show sel (Nat.ble a b) _ _ = true from hk) with ⟨h2, hk⟩ | ⟨h2, hk⟩
    · exact ifF (P := P) (decide_eq_false (by omega)) (hp a _ hk)
    · obtain ⟨h3, hk⟩ := ckb hk
      obtain ⟨h4, hk⟩ := ckb hk
      exact ifT (P := P) (decide_eq_true (by omega)) (bnP (show gdiv _ _ = some ((num / b : Nat) : Int) by rw [gdiv_of (by omega) (big_sm h4), fdiv_nat]) (bnP (half_n (b + num / b)) (kroot_s hp n b _ hk)))
noncomputable def n_root_below (number : Nat) (K : Nat → Bool) : Bool :=
  ck (Nat.ble OF number) ((fun m => sel (Nat.beq m 0) (K OF) (klog m fun z => knbG m z fun z => (fun x => ck (Nat.ble x big) (kroot m (fun a => K (Nat.add a OF)) 400 x (Nat.div (Nat.add x (Nat.div m x)) 2))) (Nat.pow 2 (Nat.div (Nat.add z 2) 2)))) (Nat.sub number OF))
theorem n_root_below_s {number : Nat} {K : Nat → Bool} (hk : n_root_below number K = true) : OK1 K (p_root_below (dec number)) := by
  obtain ⟨h0, hk⟩ := ckb (show ck (Nat.ble OF number) _ = true from hk)
  have hk : sel (Nat.beq (number - OF) 0) (K OF) (klog (number - OF) fun z => knbG (number - OF) z fun z => (fun x => ck (Nat.ble x big) (kroot (number - OF) (fun a => K (Nat.add a OF)) 400 x (Nat.div (Nat.add x (Nat.div (number - OF) x)) 2))) (Nat.pow 2 (Nat.div (Nat.add z 2) 2))) = true := hk
  rw [dec_pos h0]
  generalize number - OF = m at hk
  rcases selq hk with ⟨h1, hk⟩ | ⟨h1, hk⟩
  · subst h1
    exact ⟨0, rfl, OF, by unfold dec; omega, hk⟩
  · refine ifF (decide_eq_false (by omega)) ?_
    obtain ⟨z, hk⟩ := klog_s hk
    obtain ⟨n1, n2, n3, n4, hk⟩ := knbG_s hk
    obtain ⟨h2, hk⟩ := ckb hk
    have h2 : 2 ^ ((z + 2) / 2) ≤ big := h2
    rw [bits_nat, Int.natAbs_natCast, n1]
    have hz : (z + 2) / 2 ≤ 1000 := by
      rcases Nat.lt_or_ge 1000 ((z + 2) / 2) with q | q
      · have a1 := Nat.pow_lt_pow_right (show 1 < 2 by decide) q
        rw [big_eq] at h2
        exact absurd h2 (Nat.not_le.mpr a1)
      · exact q
    have tp := two_pos ((z + 2) / 2)
    refine bnP (half_n (z + 2)) (bnP (gshl_one _ (Nat.le_trans hz (by decide))) (bnP (show gdiv _ _ = some ((m / 2 ^ ((z + 2) / 2) : Nat) : Int) by rw [gdiv_of (by omega) (big_sm h2), fdiv_nat]) (bnP (half_n (2 ^ ((z + 2) / 2) + m / 2 ^ ((z + 2) / 2))) ?_)))
    exact kroot_s (num := m) (post := q_root_below) (P := OK1 K) (fun a b hk => ⟨_, rfl, a + OF, by rw [dec_of], hk⟩) 400 (2 ^ ((z + 2) / 2)) _ hk
end Mine
end
section
namespace Mine
theorem size_abs (a : Int) : p_size_of a = some ((nbv a.natAbs : Nat) : Int) := by
  unfold p_size_of
  rw [bits_nat]; rfl
theorem natAbs_nw (f : Bool) (n : Nat) : (nw f * (n : Int)).natAbs = n := by cases f <;> simp [nw]
theorem size_nw (f : Bool) (n : Nat) : p_size_of (nw f * (n : Int)) = some ((nbv n : Nat) : Int) := by rw [size_abs, natAbs_nw]
theorem sign_nw (f : Bool) {n : Nat} (h : 0 < n) : p_sign_of_whole (nw f * (n : Int)) = some (nw f) := by
  unfold p_sign_of_whole
  cases f
  · rw [show nw false * (n : Int) = -(n : Int) by simp [nw], decide_eq_false (by omega), decide_eq_true (by omega)]; rfl
  · rw [show nw true * (n : Int) = (n : Int) by simp [nw], decide_eq_true (by omega), decide_eq_false (by omega)]; rfl
theorem zeros_nw (f : Bool) {n : Nat} (h : 1 ≤ n) : p_zeros_below (nw f * (n : Int)) = some (((nbv (n - Nat.land n (n - 1)) : Nat) : Int) - 1) := by
  unfold p_zeros_below
  rw [low_bit' _ (by intro q; have := natAbs_nw f n; rw [q] at this; simp at this; omega), natAbs_nw, bits_nat, Int.natAbs_natCast]
theorem fdiv_nw (f : Bool) (n : Nat) {k : Nat} (hk : 0 < k) : (nw f * (n : Int)).fdiv (k : Int) = cond f ((n / k : Nat) : Int) (-((up n k : Nat) : Int)) := by
  cases f
  · rw [show nw false * (n : Int) = -(n : Int) by simp [nw], neg_fdiv n k hk]; rfl
  · rw [show nw true * (n : Int) = (n : Int) by simp [nw], fdiv_nat]; rfl
noncomputable def kLean (f : Bool) (q E : Nat) (K : Nat → Nat → Bool) : Bool :=
  ck (Nat.ble q 1000000) (ck (Nat.ble E (Nat.add OF 60000)) (ck (Nat.ble OF (Nat.add E 60000))
    ((fun low => klog low fun z => knbG low z fun z => sel f (K (Nat.add (Nat.div q (Nat.pow 2 z)) OF) (Nat.add E z)) ((fun u => ck (Nat.ble u OF) (K (Nat.sub OF u) (Nat.add E z))) (up q (Nat.pow 2 z)))) (Nat.sub q (Nat.land q (Nat.sub q 1))))))
theorem kLean_s {f : Bool} {q E : Nat} {K : Nat → Nat → Bool} (hq : 1 ≤ q) (h : kLean f q E K = true) : ∃ r, p_lean (nw f * (q : Int)) (dec E) = some r ∧ ∃ c d, r = (dec c, dec d) ∧ K c d = true := by
  obtain ⟨h1, h⟩ := ckb h
  obtain ⟨h2, h⟩ := ckb h
  obtain ⟨h3, h⟩ := ckb h
  simp only [Nat.add_eq] at h2 h3
  obtain ⟨z0, h⟩ := klog_s h
  obtain ⟨n1, n2, n3, n4, h⟩ := knbG_s h
  unfold p_lean
  have hb : nbv q ≤ 21 := by
    unfold nbv
    rw [if_neg (by omega)]
    have := (Nat.log2_lt (show q ≠ 0 by omega)).mpr (show q < 2 ^ 20 by omega)
    omega
  have ne : nw f * (q : Int) ≠ 0 := fun e => by have := natAbs_nw f q; rw [e] at this; simp at this; omega
  rw [if_neg (by rw [decide_eq_true_eq]; exact ne), zeros_nw f hq, Option.bind_some, size_nw, Option.bind_some]
  rw [show nbv (q - Nat.land q (q - 1)) = z0 + 1 from n1]
  rw [if_neg (by rw [decide_eq_true_eq]; unfold dec; omega)]
  rw [show (((z0 + 1 : Nat) : Int) - 1) = (z0 : Int) by omega, gshr_nat, Option.bind_some, fdiv_nw f q (two_pos z0)]
  rcases sel_s h with ⟨hf, h⟩ | ⟨hf, h⟩ <;> subst hf
  · exact ⟨_, rfl, _, _, pair_eq (show dec (q / 2 ^ z0 + OF) = _ by rw [dec_of]; rfl) (show dec (E + z0) = _ by unfold dec; omega), h⟩
  · obtain ⟨h4, h⟩ := ckb h
    have h4 : up q (2 ^ z0) ≤ OF := h4
    exact ⟨_, rfl, _, _, pair_eq (show dec (OF - up q (2 ^ z0)) = _ by rw [cond_false]; unfold dec; omega) (show dec (E + z0) = _ by unfold dec; omega), h⟩
noncomputable def kNear (z g : Nat) (K : Nat → Bool) : Bool :=
  (fun q r hf => sel (Nat.ble (Nat.add hf 1) r) (K (Nat.add q 1)) (sel (Nat.beq r hf) (sel (Nat.beq (Nat.mod q 2) 1) (K (Nat.add q 1)) (K q)) (K q))) (Nat.div z (Nat.pow 2 g)) (Nat.mod z (Nat.pow 2 g)) (Nat.pow 2 (Nat.sub g 1))
theorem mask (z g : Nat) : Builtin.bitAnd (z : Int) (((2 ^ g : Nat) : Int) - 1) = ((z % 2 ^ g : Nat) : Int) := by
  have := two_pos g
  rw [bitAnd_pp (by omega) (by omega)]
  rw [show (((2 ^ g : Nat) : Int) - 1).toNat = 2 ^ g - 1 by omega, Int.toNat_natCast, Nat.and_two_pow_sub_one_eq_mod]
theorem kNear_s {z g : Nat} {K : Nat → Bool} (hg : 1 ≤ g) (hg2 : g ≤ 100000) (h : kNear z g K = true) : ∃ q : Nat, p_nearest_shift (z : Int) (g : Int) = some (q : Int) ∧ K q = true := by
  unfold p_nearest_shift
  rw [gshr_nat, Option.bind_some, gshl_one g hg2, Option.bind_some]
  have e1 : (g : Int) - 1 = ((g - 1 : Nat) : Int) := by omega
  rw [e1, gshl_one _ (by omega), Option.bind_some, mask, fdiv_nat]
  have odd : Builtin.bitAnd ((z / 2 ^ g : Nat) : Int) 1 = ((z / 2 ^ g % 2 : Nat) : Int) := by
    have := mask (z / 2 ^ g) 1
    rw [show (((2 ^ 1 : Nat) : Int) - 1) = 1 from rfl] at this
    exact this
  rw [odd]
  have h : sel (Nat.ble (2 ^ (g - 1) + 1) (z % 2 ^ g)) (K (z / 2 ^ g + 1)) (sel (Nat.beq (z % 2 ^ g) (2 ^ (g - 1))) (sel (Nat.beq (z / 2 ^ g % 2) 1) (K (z / 2 ^ g + 1)) (K (z / 2 ^ g))) (K (z / 2 ^ g))) = true := h
  rcases selb h with ⟨h1, h⟩ | ⟨h1, h⟩
  · rw [if_pos (by rw [decide_eq_true_eq]; omega)]
    exact ⟨z / 2 ^ g + 1, by rw [Int.natCast_add]; rfl, h⟩
  · rw [if_neg (by rw [decide_eq_true_eq]; omega)]
    rcases selq h with ⟨h2, h⟩ | ⟨h2, h⟩
    · rw [if_pos (by rw [decide_eq_true_eq]; exact congrArg (fun n : Nat => (n : Int)) h2)]
      rcases selq h with ⟨h3, h⟩ | ⟨h3, h⟩
      · rw [if_pos (by rw [decide_eq_true_eq]; exact congrArg (fun n : Nat => (n : Int)) h3)]
        exact ⟨z / 2 ^ g + 1, by rw [Int.natCast_add]; rfl, h⟩
      · rw [if_neg (by rw [decide_eq_true_eq]; omega)]
        exact ⟨z / 2 ^ g, rfl, h⟩
    · rw [if_neg (by rw [decide_eq_true_eq]; omega)]
      exact ⟨z / 2 ^ g, rfl, h⟩
noncomputable def kZ (p : Nat) (f : Bool) (z E : Nat) (K : Nat → Nat → Bool) : Bool :=
  klog z fun a => knbG z a fun a => sel (Nat.ble (Nat.add a 1) p) (kLean f z E K)
    ((fun g => kNear z g fun q => ck (Nat.ble 1 q) (ck (Nat.ble q 1000000) (kLean f q (Nat.add E g) K))) (Nat.sub (Nat.add a 1) p))
theorem kZ_s {p : Nat} {f : Bool} {z E : Nat} {K : Nat → Nat → Bool} (hz : z ≤ 2 ^ 1000) (h : kZ p f z E K = true) : ∃ r, p_shifted_round (p : Int) (nw f * (z : Int)) (dec E) = some r ∧ ∃ c d, r = (dec c, dec d) ∧ K c d = true := by
  obtain ⟨a, h⟩ := klog_s h
  obtain ⟨n1, n2, n3, n4, h⟩ := knbG_s h
  have ha : a < 1001 := by
    rcases Nat.lt_or_ge a 1001 with q | q
    · exact q
    · have := Nat.pow_le_pow_right (show 0 < 2 by decide) q
      have h2 : 2 ^ 1000 < 2 ^ 1001 := Nat.pow_lt_pow_right (by decide) (by decide)
      omega
  unfold p_shifted_round
  rw [size_nw, Option.bind_some, n1]
  rcases selb h with ⟨h1, h⟩ | ⟨h1, h⟩ <;> simp only [Nat.add_eq] at h1
  · rw [if_pos (by rw [decide_eq_true_eq]; omega)]
    obtain ⟨_, h2, x, y, rfl, h⟩ := kLean_s n2 h
    exact bind_ex ⟨_, h2, _, rfl, _, _, rfl, h⟩
  · rw [if_neg (by rw [decide_eq_true_eq]; omega), sign_nw f (by omega), Option.bind_some, natAbs_nw]
    have eg : ((a + 1 : Nat) : Int) - (p : Int) = ((a + 1 - p : Nat) : Int) := by omega
    rw [eg]
    obtain ⟨q, h2, h⟩ := kNear_s (z := z) (g := a + 1 - p) (by omega) (by omega) h
    obtain ⟨h3, h⟩ := ckb h
    obtain ⟨h4, h⟩ := ckb h
    have h : kLean f q (E + (a + 1 - p)) K = true := h
    obtain ⟨_, h5, x, y, rfl, h⟩ := kLean_s h3 h
    refine bind_ex ⟨_, h2, ?_⟩
    refine bind_ex ⟨_, gmul_of (sm_nw f) (big_sm (by have := big_10; omega)), ?_⟩
    rw [show dec E + ((a + 1 - p : Nat) : Int) = dec (E + (a + 1 - p)) by unfold dec; omega]
    exact bind_ex ⟨_, h5, _, rfl, _, _, rfl, h⟩
noncomputable def big9 : Nat := 8452712498170643941637436558664265704301557216577944354047371344426782440907597751590676094202515006314790319892114058862117560952042968596008623655407033230534186943984081346699704282822823056848387726531379014466368452684024987821414350380272583623832617294363807973376
theorem big9_eq : big9 = 2 ^ 900 := by decide +kernel
noncomputable def stk (r : Nat) : Nat := @Bool.rec (fun _ => Nat) 1 0 (Nat.beq r 0)
theorem stk_eq (r : Nat) : stk r = cond (Nat.beq r 0) 0 1 := by unfold stk; cases Nat.beq r 0 <;> rfl
noncomputable def kRnd (p w : Nat) (f : Bool) (n : Nat) (K : Nat → Nat → Bool) : Bool :=
  klog n fun a => knbG n a fun a => (fun S => sel (Nat.ble (Nat.add a 1) S)
      ((fun s => (fun t => ck (Nat.ble t big) ((fun kept rest => ck (Nat.ble kept big9) (kZ p f (Nat.add (Nat.mul 2 kept) (stk rest)) (Nat.sub OF (Nat.add s 1)) K)) (Nat.div t (Nat.pow 2 w)) (Nat.mod t (Nat.pow 2 w)))) (Nat.mul n (Nat.pow 2 s))) (Nat.sub S (Nat.add a 1)))
      ((fun s => (fun b => ck (Nat.ble b big) (ck (Nat.ble n big) ((fun kept rest => ck (Nat.ble kept big9) (kZ p f (Nat.add (Nat.mul 2 kept) (stk rest)) (Nat.add OF (Nat.sub s 1)) K)) (Nat.div n b) (Nat.mod n b)))) (Nat.mul (Nat.pow 2 w) (Nat.pow 2 s))) (Nat.sub (Nat.add a 1) S))) (Nat.add (Nat.add p 2) (Nat.add w 1))
theorem sticky (kept : Nat) (b : Bool) (hs : kept ≤ 2 ^ 900) : p_with_sticky (kept : Int) (!b) = some ((2 * kept + cond b 0 1 : Nat) : Int) := by
  unfold p_with_sticky
  have sk : Sm (kept : Int) := by unfold Sm; rw [Int.natAbs_natCast]; exact Nat.lt_of_le_of_lt hs (Nat.pow_lt_pow_right (by decide) (by decide))
  rw [gmul_of sm_two sk, Option.bind_some]
  cases b
  · rw [if_pos (show (!false) = true from rfl)]; refine congrArg some ?_; simp only [cond_false]; omega
  · rw [if_neg (show ¬ ((!true) = true) by decide)]; refine congrArg some ?_; simp only [cond_true]; omega
theorem kept_z {kept c : Nat} (h : kept ≤ 2 ^ 900) (hc : c ≤ 1) : 2 * kept + c ≤ 2 ^ 1000 := by
  have : 2 ^ 900 * 8 ≤ 2 ^ 1000 := by
    have e : (2 : Nat) ^ 900 * 8 = 2 ^ 903 := by rw [show (8 : Nat) = 2 ^ 3 from rfl, ← Nat.pow_add]
    rw [e]; exact Nat.pow_le_pow_right (by decide) (by decide)
  have : 1 ≤ 2 ^ 900 := two_pos 900
  omega
theorem kRnd_s {p w : Nat} {f : Bool} {n : Nat} {K : Nat → Nat → Bool} (hw : w ≤ 1000) (hp : p ≤ 1000) (h : kRnd p w f n K = true) : ∃ r, p_rounded (p : Int) (nw f * (n : Int)) ((2 ^ w : Nat) : Int) = some r ∧ ∃ c d, r = (dec c, dec d) ∧ K c d = true := by
  obtain ⟨a, h⟩ := klog_s h
  obtain ⟨n1, n2, n3, n4, h⟩ := knbG_s h
  unfold p_rounded
  have ne : nw f * (n : Int) ≠ 0 := fun e => by have := natAbs_nw f n; rw [e] at this; simp at this; omega
  have s2 : p_size_of ((2 ^ w : Nat) : Int) = some ((w + 1 : Nat) : Int) := by
    rw [size_abs, Int.natAbs_natCast]
    unfold nbv
    rw [if_neg (by have := two_pos w; omega), Nat.log2_two_pow]
  have smw : Sm ((2 ^ w : Nat) : Int) := by unfold Sm; rw [Int.natAbs_natCast]; exact Nat.pow_lt_pow_right (by decide) (by omega)
  have zw : ((2 ^ w : Nat) : Int) ≠ 0 := by have := two_pos w; omega
  have decz : ∀ x : Nat, (!decide (((x : Nat) : Int) = 0)) = !(Nat.beq x 0) := fun x => by
    refine congrArg not ?_; exact (bool_iff (by rw [beq_iff']; omega)).symm
  have hcc : ∀ x : Nat, (cond (Nat.beq x 0) 0 1 : Nat) ≤ 1 := fun x => by cases Nat.beq x 0 <;> decide
  rw [if_neg (by rw [decide_eq_true_eq]; exact ne), s2, Option.bind_some, size_nw, Option.bind_some, n1]
  rcases selb h with ⟨h1, h⟩ | ⟨h1, h⟩ <;> simp only [Nat.add_eq] at h1
  · obtain ⟨h2, h⟩ := ckb h
    obtain ⟨h3, h⟩ := ckb h
    have es : (p : Int) + 2 + ((w + 1 : Nat) : Int) - ((a + 1 : Nat) : Int) = ((p + 2 + (w + 1) - (a + 1) : Nat) : Int) := by omega
    rw [es]
    have hs3 : p + 2 + (w + 1) - (a + 1) ≤ 100000 := by omega
    have h2 : n * 2 ^ (p + 2 + (w + 1) - (a + 1)) ≤ big := h2
    have h3 : n * 2 ^ (p + 2 + (w + 1) - (a + 1)) / 2 ^ w ≤ big9 := h3
    have h : kZ p f (2 * (n * 2 ^ (p + 2 + (w + 1) - (a + 1)) / 2 ^ w) + stk (n * 2 ^ (p + 2 + (w + 1) - (a + 1)) % 2 ^ w)) (OF - (p + 2 + (w + 1) - (a + 1) + 1)) K = true := h
    generalize p + 2 + (w + 1) - (a + 1) = s at h h2 h3 hs3
    have st : Sm ((n * 2 ^ s : Nat) : Int) := big_sm h2
    have sn : Sm (n : Int) := st.nat (Nat.le_mul_of_pos_right _ (two_pos s))
    rw [if_pos (by rw [decide_eq_true_eq]; omega), natAbs_nw, gshl_of sn (by omega) (Int.ofNat_le.mpr hs3), Option.bind_some, Int.toNat_natCast, ← pow_cast, ← Int.natCast_mul]
    rw [gdiv_of zw smw, Option.bind_some, gmod_of zw, Option.bind_some, fdiv_nat, sign_nw f (by omega), Option.bind_some]
    have em : ((n * 2 ^ s : Nat) : Int).fmod ((2 ^ w : Nat) : Int) = ((n * 2 ^ s % 2 ^ w : Nat) : Int) := by rw [Int.fmod_eq_emod_of_nonneg _ (Int.natCast_nonneg _)]; rfl
    rw [big9_eq] at h3
    rw [em, decz, sticky _ _ h3, Option.bind_some]
    rw [stk_eq] at h
    have hz := kept_z h3 (hcc (n * 2 ^ s % 2 ^ w))
    have smz : Sm ((2 * (n * 2 ^ s / 2 ^ w) + cond (Nat.beq (n * 2 ^ s % 2 ^ w) 0) 0 1 : Nat) : Int) := sm_nat hz
    rw [gmul_of (sm_nw f) smz, Option.bind_some]
    rw [show (0 : Int) - (s : Int) - 1 = dec (OF - (s + 1)) by have := OF_big; unfold dec; omega]
    obtain ⟨_, h5, x, y, rfl, h⟩ := kZ_s hz h
    exact bind_ex ⟨_, h5, _, rfl, _, _, rfl, h⟩
  · obtain ⟨h2, h⟩ := ckb h
    obtain ⟨h2', h⟩ := ckb h
    obtain ⟨h3, h⟩ := ckb h
    have es : (p : Int) + 2 + ((w + 1 : Nat) : Int) - ((a + 1 : Nat) : Int) = -((a + 1 - (p + 2 + (w + 1)) : Nat) : Int) := by omega
    rw [es]
    have hsp : 1 ≤ a + 1 - (p + 2 + (w + 1)) := by omega
    have h2 : 2 ^ w * 2 ^ (a + 1 - (p + 2 + (w + 1))) ≤ big := h2
    have h3 : n / (2 ^ w * 2 ^ (a + 1 - (p + 2 + (w + 1)))) ≤ big9 := h3
    have h : kZ p f (2 * (n / (2 ^ w * 2 ^ (a + 1 - (p + 2 + (w + 1))))) + stk (n % (2 ^ w * 2 ^ (a + 1 - (p + 2 + (w + 1)))))) (OF + (a + 1 - (p + 2 + (w + 1)) - 1)) K = true := h
    generalize a + 1 - (p + 2 + (w + 1)) = s at h h2 h3 hsp
    have sb : Sm ((2 ^ w * 2 ^ s : Nat) : Int) := big_sm h2
    have hs2 : s ≤ 1000 := by
      rcases Nat.lt_or_ge 1000 s with q | q
      · have a1 := Nat.pow_lt_pow_right (show 1 < 2 by decide) q
        have a2 : 2 ^ s ≤ 2 ^ w * 2 ^ s := Nat.le_mul_of_pos_left _ (two_pos w)
        rw [big_eq] at h2
        omega
      · exact q
    have zb : ((2 ^ w * 2 ^ s : Nat) : Int) ≠ 0 := by have := Nat.mul_pos (two_pos w) (two_pos s); omega
    rw [if_neg (by rw [decide_eq_true_eq]; omega), show (0 : Int) - -(s : Int) = (s : Int) by omega, gshl_of smw (by omega) (by omega), Option.bind_some, Int.toNat_natCast, ← pow_cast, ← Int.natCast_mul, natAbs_nw]
    rw [gdiv_of zb sb, Option.bind_some, gmod_of zb, Option.bind_some, fdiv_nat, sign_nw f (by omega), Option.bind_some]
    have em : ((n : Nat) : Int).fmod ((2 ^ w * 2 ^ s : Nat) : Int) = ((n % (2 ^ w * 2 ^ s) : Nat) : Int) := by rw [Int.fmod_eq_emod_of_nonneg _ (Int.natCast_nonneg _)]; rfl
    rw [big9_eq] at h3
    rw [em, decz, sticky _ _ h3, Option.bind_some]
    rw [stk_eq] at h
    have hz := kept_z h3 (hcc (n % (2 ^ w * 2 ^ s)))
    have smz : Sm ((2 * (n / (2 ^ w * 2 ^ s)) + cond (Nat.beq (n % (2 ^ w * 2 ^ s)) 0) 0 1 : Nat) : Int) := sm_nat hz
    rw [gmul_of (sm_nw f) smz, Option.bind_some]
    rw [show (s : Int) - 1 = dec (OF + (s - 1)) by unfold dec; omega]
    obtain ⟨_, h5, x, y, rfl, h⟩ := kZ_s hz h
    exact bind_ex ⟨_, h5, _, rfl, _, _, rfl, h⟩
noncomputable def krd (p w a : Nat) (K : Nat → Nat → Bool) : Bool :=
  ck (Nat.ble w 1000) (ck (Nat.ble p 1000) (sel (Nat.beq a OF) (K OF OF) (sel (Nat.ble OF a) (kRnd p w true (Nat.sub a OF) K) (kRnd p w false (Nat.sub OF a) K))))
theorem krd_s {p w a : Nat} {K : Nat → Nat → Bool} (h : krd p w a K = true) : w ≤ 1000 ∧ ∃ r, p_rounded (p : Int) (dec a) ((2 ^ w : Nat) : Int) = some r ∧ ∃ c d, r = (dec c, dec d) ∧ K c d = true := by
  obtain ⟨h1, h⟩ := ckb h
  obtain ⟨h2, h⟩ := ckb h
  refine ⟨h1, ?_⟩
  have z : dec OF = 0 := by unfold dec; omega
  rcases selq h with ⟨h0, h⟩ | ⟨h0, h⟩
  · subst h0
    exact ⟨(0, 0), by unfold p_rounded; rw [z]; rfl, _, _, pair_eq z z, h⟩
  · rcases selb h with ⟨h3, h⟩ | ⟨h3, h⟩
    · have h : kRnd p w true (a - OF) K = true := h
      have := kRnd_s (f := true) h1 h2 h
      rwa [show nw true * ((a - OF : Nat) : Int) = dec a by rw [dec_pos h3]; simp [nw]] at this
    · have h : kRnd p w false (OF - a) K = true := h
      have := kRnd_s (f := false) h1 h2 h
      rwa [show nw false * ((OF - a : Nat) : Int) = dec a by rw [dec_neg (by omega)]; simp [nw]] at this
end Mine
end
section
namespace Mine
theorem x_inverse_series : OkW q2' (eP eI (eP eI eI)) (fun a K => n_inverse_series a.1 a.2.1 a.2.2 K) (fun a => p_inverse_series a.1 a.2.1 a.2.2) := fun _ _ => n_inverse_series_s
noncomputable abbrev wd_inverse_series : We := wT' e_inverse_series x_inverse_series
theorem x_exp_series : OkW q2' (eP eI eT) (fun a K => n_exp_series a.1 a.2.1 a.2.2 K) (fun a => p_exp_series a.1 a.2.1 a.2.2) := fun _ _ => n_exp_series_s
noncomputable abbrev wd_exp_series : We := wT' e_exp_series x_exp_series
theorem x_wave_series : OkW q2' (eP eI (eP eT (eP eT eI))) (fun a K => n_wave_series a.1 a.2.1.1 a.2.1.2 a.2.2.1.1 a.2.2.1.2 a.2.2.2 K) (fun a => p_wave_series a.1 a.2.1.1 a.2.1.2 a.2.2.1.1 a.2.2.1.2 a.2.2.2) := fun _ _ => n_wave_series_s
noncomputable abbrev wd_wave_series : We := wT' e_wave_series x_wave_series
theorem x_odd_series : OkW q2' (eP eI (eP eI (eP eI eI))) (fun a K => n_odd_series a.1 a.2.1 a.2.2.1 a.2.2.2 K) (fun a => p_odd_series a.1 a.2.1 a.2.2.1 a.2.2.2) := fun _ _ => n_odd_series_s
noncomputable abbrev wd_odd_series : We := wT' e_odd_series x_odd_series
theorem x_root_below : OkW qI eI (fun a K => n_root_below a K) (fun a => p_root_below a) := fun _ _ => n_root_below_s
noncomputable abbrev wd_root_below : We := wI e_root_below x_root_below
noncomputable def n_quotient_of (work a0 a1 b0 b1 : Nat) (K : Nat → Nat → Bool) : Bool :=
  nshl a0 work fun low => nshl a1 work fun high => ndiv low b0 fun a => ndiv low b1 fun b => ndiv high b0 fun c => ndiv high b1 fun d =>
  n_up_over low b0 fun a' => n_up_over low b1 fun b' => n_up_over high b0 fun c' => n_up_over high b1 fun d' => nmin4 a b c d fun x => nmax4 a' b' c' d' fun y => K x y
theorem n_quotient_of_s {work a0 a1 b0 b1 : Nat} {x1 x2 x3 x4 x5 : Int} {K : Nat → Nat → Bool} (y1 : dec work = x1) (y2 : dec a0 = x2) (y3 : dec a1 = x3) (y4 : dec b0 = x4) (y5 : dec b1 = x5) (h : n_quotient_of work a0 a1 b0 b1 K = true) : ∃ r, p_quotient_of x1 x2 x3 x4 x5 = some r ∧ ∃ c d, r = (dec c, dec d) ∧ K c d = true := by
  subst y1 y2 y3 y4 y5
  unfold n_quotient_of at h
  unfold p_quotient_of
  obtain ⟨z0, h0, h⟩ := nshl_s rfl rfl h
  refine bind_ex ⟨_, h0, ?_⟩
  obtain ⟨z1, h1, h⟩ := nshl_s rfl rfl h
  refine bind_ex ⟨_, h1, ?_⟩
  obtain ⟨z2, h2, h⟩ := ndiv_s rfl rfl h
  refine bind_ex ⟨_, h2, ?_⟩
  obtain ⟨z3, h3, h⟩ := ndiv_s rfl rfl h
  refine bind_ex ⟨_, h3, ?_⟩
  obtain ⟨z4, h4, h⟩ := ndiv_s rfl rfl h
  refine bind_ex ⟨_, h4, ?_⟩
  obtain ⟨z5, h5, h⟩ := ndiv_s rfl rfl h
  refine bind_ex ⟨_, h5, ?_⟩
  obtain ⟨_, h6, z6, rfl, h⟩ := n_up_over_s rfl rfl h
  refine bind_ex ⟨_, h6, ?_⟩
  obtain ⟨_, h7, z7, rfl, h⟩ := n_up_over_s rfl rfl h
  refine bind_ex ⟨_, h7, ?_⟩
  obtain ⟨_, h8, z8, rfl, h⟩ := n_up_over_s rfl rfl h
  refine bind_ex ⟨_, h8, ?_⟩
  obtain ⟨_, h9, z9, rfl, h⟩ := n_up_over_s rfl rfl h
  refine bind_ex ⟨_, h9, ?_⟩
  obtain ⟨u, e1, h⟩ := nmin4_s h
  obtain ⟨v, e2, h⟩ := nmax4_s h
  exact ⟨_, rfl, _, _, pair_eq e1.symm e2.symm, h⟩
theorem x_quotient_of : OkW q2' (eP eI (eP eT eT)) (fun a K => n_quotient_of a.1 a.2.1.1 a.2.1.2 a.2.2.1 a.2.2.2 K) (fun a => p_quotient_of a.1 a.2.1.1 a.2.1.2 a.2.2.1 a.2.2.2) := fun _ _ => n_quotient_of_s rfl rfl rfl rfl rfl
noncomputable abbrev wd_quotient_of : We := wT' e_quotient_of x_quotient_of
noncomputable def kall (f : Nat → Nat → Nat → Bool) (l : List (Nat × Nat × Nat)) : Bool := @List.rec _ (fun _ => Bool) true (fun t _ ih => ck (f t.1 t.2.1 t.2.2) ih) l
theorem kall_s {f : Nat → Nat → Nat → Bool} : ∀ {l : List (Nat × Nat × Nat)}, kall f l = true → ∀ w a b, (w, a, b) ∈ l → f w a b = true
  | [], _, _, _, _, hm => by cases hm
  | t :: r, h, w, a, b, hm => by
    obtain ⟨h1, h2⟩ := ck_s (show ck (f t.1 t.2.1 t.2.2) (kall f r) = true from h)
    rcases List.mem_cons.mp hm with e | hm
    · subst e; exact h1
    · exact kall_s h2 w a b hm
noncomputable def kfind (w : Nat) (K : Nat → Nat → Bool) (no : Bool) (l : List (Nat × Nat × Nat)) : Bool := @List.rec _ (fun _ => Bool) no (fun t _ ih => sel (Nat.beq t.1 w) (K (Nat.add t.2.1 OF) (Nat.add t.2.2 OF)) ih) l
theorem kfind_s {w : Nat} {K : Nat → Nat → Bool} {no : Bool} : ∀ {l : List (Nat × Nat × Nat)}, kfind w K no l = true → no = true ∨ ∃ a b, (w, a, b) ∈ l ∧ K (a + OF) (b + OF) = true
  | [], h => .inl h
  | (u, a, b) :: r, h => by
    rcases selq (show sel (Nat.beq u w) (K (Nat.add a OF) (Nat.add b OF)) (kfind w K no r) = true from h) with ⟨h1, h2⟩ | ⟨_, h2⟩
    · exact .inr ⟨a, b, by rw [h1]; exact List.mem_cons_self .., h2⟩
    · rcases kfind_s h2 with h | ⟨a', b', hm, h⟩
      · exact .inl h
      · exact .inr ⟨a', b', List.mem_cons_of_mem _ hm, h⟩
noncomputable def nc_log_of_two (work : Nat) (K : Nat → Nat → Bool) : Bool :=
n_inverse_series work (nlit 3) (nlit 1) fun t2 t3 =>
n_often t2 t3 (nlit 2) fun t5 t6 =>
K t5 t6
theorem xc_log_of_two : OkW q2' eI (fun a K => nc_log_of_two a K) (fun a => p_log_of_two a) := okW 46 [wd_often, wd_inverse_series] uT_r
noncomputable def nc_half_turn (work : Nat) (K : Nat → Nat → Bool) : Bool :=
n_inverse_series work (nlit 5) (nng 1) fun t2 t3 =>
n_often t2 t3 (nlit 16) fun t5 t6 =>
n_inverse_series work (nlit 239) (nng 1) fun t8 t9 =>
n_often t8 t9 (nlit 4) fun t11 t12 =>
n_less_of t5 t6 t11 t12 fun t14 t15 =>
K t14 t15
theorem xc_half_turn : OkW q2' eI (fun a K => nc_half_turn a K) (fun a => p_half_turn a) := okW 47 [wd_less_of, wd_often, wd_inverse_series] uT_r
noncomputable def ltab : List (Nat × Nat × Nat) := [(16, 45394, 45450), (17, 90818, 90874), (18, 181668, 181732), (19, 363370, 363434), (20, 726780, 726844), (21, 1453592, 1453664), (22, 2907228, 2907300), (23, 5814498, 5814570), (24, 11629032, 11629112), (25, 23258112, 23258192), (26, 46516272, 46516352), (27, 93032586, 93032674), (28, 186065226, 186065314), (29, 372130504, 372130592), (30, 744261064, 744261152), (31, 1488522176, 1488522272), (32, 2977044414, 2977044510), (33, 5954088886, 5954088982), (34, 11908177824, 11908177928), (35, 23816355710, 23816355814), (36, 47632711488, 47632711592), (37, 95265423032, 95265423144), (38, 190530846132, 190530846244), (39, 381061692324, 381061692436), (40, 762123384714, 762123384834), (41, 1524246769498, 1524246769618), (42, 3048493539076, 3048493539196), (43, 6096987078210, 6096987078338), (44, 12193974156496, 12193974156624), (45, 24387948313070, 24387948313198), (46, 48775896626214, 48775896626350), (47, 97551793252502, 97551793252638), (48, 195103586505088, 195103586505224)]
theorem ltab_ok : kall (fun w a b => nc_log_of_two (Nat.add w OF) fun x y => ck (Nat.beq x (Nat.add a OF)) (Nat.beq y (Nat.add b OF))) ltab = true := by decide +kernel
noncomputable def n_log_of_two (work : Nat) (K : Nat → Nat → Bool) : Bool := ck (Nat.ble OF work) (kfind (Nat.sub work OF) K (nc_log_of_two work K) ltab)
theorem n_log_of_two_s {work : Nat} {x : Int} {K : Nat → Nat → Bool} (hx : dec work = x) (h : n_log_of_two work K = true) : ∃ r, p_log_of_two x = some r ∧ ∃ c d, r = (dec c, dec d) ∧ K c d = true := by
  subst hx
  obtain ⟨h0, h⟩ := ckb h
  rcases kfind_s h with h5 | ⟨a, b, hm, h5⟩
  · exact xc_log_of_two _ _ h5
  · have := kall_s ltab_ok _ _ _ hm
    obtain ⟨_, h1, x, y, rfl, h2⟩ := xc_log_of_two _ _ this
    obtain ⟨h3, h4⟩ := ckq h2
    have h4 := Nat.eq_of_beq_eq_true h4
    have e : Nat.add (Nat.sub work OF) OF = work := Nat.sub_add_cancel h0
    rw [e] at h1
    exact ⟨_, h1, x, y, rfl, by rw [h3, h4]; exact h5⟩
theorem x_log_of_two : OkW q2' eI (fun a K => n_log_of_two a K) (fun a => p_log_of_two a) := fun _ _ => n_log_of_two_s rfl
noncomputable abbrev wd_log_of_two : We := wT' e_log_of_two x_log_of_two
noncomputable def htab : List (Nat × Nat × Nat) := [(16, 205712, 206080), (17, 411560, 411992), (18, 823320, 823752), (19, 1646884, 1647316), (20, 3293996, 3294428), (21, 6588160, 6588656), (22, 13176548, 13177044), (23, 26353328, 26353824), (24, 52706908, 52707420), (25, 105414084, 105414596), (26, 210828412, 210828988), (27, 421657132, 421657708), (28, 843314584, 843315160), (29, 1686629440, 1686630016), (30, 3373259148, 3373259724), (31, 6746518532, 6746519172), (32, 13493037384, 13493038024), (33, 26986075076, 26986075716), (34, 53972150504, 53972151144), (35, 107944301292, 107944301996), (36, 215888602936, 215888603640), (37, 431777206212, 431777206916), (38, 863554412760, 863554413464), (39, 1727108825828, 1727108826532), (40, 3454217651964, 3454217652748), (41, 6908435304316, 6908435305100), (42, 13816870609020, 13816870609804), (43, 27633741218448, 27633741219232), (44, 55267482437320, 55267482438104), (45, 110534964875028, 110534964875876), (46, 221069929750464, 221069929751312), (47, 442139859501336, 442139859502184), (48, 884279719003128, 884279719003976)]
theorem htab_ok : kall (fun w a b => nc_half_turn (Nat.add w OF) fun x y => ck (Nat.beq x (Nat.add a OF)) (Nat.beq y (Nat.add b OF))) htab = true := by decide +kernel
noncomputable def n_half_turn (work : Nat) (K : Nat → Nat → Bool) : Bool := ck (Nat.ble OF work) (kfind (Nat.sub work OF) K (nc_half_turn work K) htab)
theorem n_half_turn_s {work : Nat} {x : Int} {K : Nat → Nat → Bool} (hx : dec work = x) (h : n_half_turn work K = true) : ∃ r, p_half_turn x = some r ∧ ∃ c d, r = (dec c, dec d) ∧ K c d = true := by
  subst hx
  obtain ⟨h0, h⟩ := ckb h
  rcases kfind_s h with h5 | ⟨a, b, hm, h5⟩
  · exact xc_half_turn _ _ h5
  · have := kall_s htab_ok _ _ _ hm
    obtain ⟨_, h1, x, y, rfl, h2⟩ := xc_half_turn _ _ this
    obtain ⟨h3, h4⟩ := ckq h2
    have h4 := Nat.eq_of_beq_eq_true h4
    have e : Nat.add (Nat.sub work OF) OF = work := Nat.sub_add_cancel h0
    rw [e] at h1
    exact ⟨_, h1, x, y, rfl, by rw [h3, h4]; exact h5⟩
theorem x_half_turn : OkW q2' eI (fun a K => n_half_turn a K) (fun a => p_half_turn a) := fun _ _ => n_half_turn_s rfl
noncomputable abbrev wd_half_turn : We := wT' e_half_turn x_half_turn
noncomputable def n_reduced_by_twos (work realm reale : Nat) (K : Nat → Nat → Nat → Bool) : Bool :=
n_fraction_of realm reale fun t2 t3 =>
n_fraction_bounds work t2 t3 fun t5 t6 =>
n_log_of_two work fun t8 t9 =>
ndiv t5 t9 fun t10 =>
n_often t8 t9 t10 fun t13 t14 =>
n_less_of t5 t6 t13 t14 fun t16 t17 =>
K t10 t16 t17
theorem x_reduced_by_twos : OkW qP (eP eI eR) (fun a K => n_reduced_by_twos a.1 a.2.1 a.2.2 K) (fun a => p_reduced_by_twos a.1 a.2.1 a.2.2) := okW 52 [wd_fraction_of, wd_fraction_bounds, wd_log_of_two, wd_less_of, wd_often] uP_r
noncomputable abbrev wd_reduced_by_twos : We := wP' e_reduced_by_twos x_reduced_by_twos
noncomputable def n_log_bounds (work realm reale : Nat) (K : Nat → Nat → Bool) : Bool :=
n_place_of realm reale fun t2 =>
nbits realm fun t3 =>
nshl (nlit 1) t3 fun t5 =>
nmul (nlit 4) realm fun t7 =>
nmul (nlit 3) t5 fun t9 =>
sel (nlt t7 t9) (
nmul (nlit 2) realm fun t11 =>
nsub t2 (nlit 1) fun t13 =>
nsub t11 t5 fun t15 =>
nadd t11 t5 fun t17 =>
n_odd_series work t15 t17 (nlit 1) fun t20 t21 =>
n_often t20 t21 (nlit 2) fun t23 t24 =>
n_log_of_two work fun t26 t27 =>
n_often t26 t27 t13 fun t29 t30 =>
n_more_of t29 t30 t23 t24 fun t32 t33 =>
K t32 t33) (
nsub realm t5 fun t34 =>
nadd realm t5 fun t36 =>
n_odd_series work t34 t36 (nlit 1) fun t39 t40 =>
n_often t39 t40 (nlit 2) fun t42 t43 =>
n_log_of_two work fun t45 t46 =>
n_often t45 t46 t2 fun t48 t49 =>
n_more_of t48 t49 t42 t43 fun t51 t52 =>
K t51 t52)
theorem x_log_bounds : OkW q2' (eP eI eR) (fun a K => n_log_bounds a.1 a.2.1 a.2.2 K) (fun a => p_log_bounds a.1 a.2.1 a.2.2) := okW 54 [wd_place_of, wd_often, wd_more_of, wd_odd_series, wd_log_of_two] uT_r
noncomputable abbrev wd_log_bounds : We := wT' e_log_bounds x_log_bounds
noncomputable def n_quarter_turns (work realm reale : Nat) (K : Nat → Nat → Nat → Bool) : Bool :=
n_fraction_of realm reale fun t2 t3 =>
n_fraction_bounds work t2 t3 fun t5 t6 =>
n_half_turn work fun t8 t9 =>
nmul (nlit 2) t5 fun t10 =>
ndiv t8 (nlit 2) fun t12 =>
nadd t10 t12 fun t14 =>
ndiv t14 t8 fun t16 =>
n_often t8 t9 t16 fun t19 t20 =>
n_part_of t19 t20 (nlit 2) fun t22 t23 =>
n_less_of t5 t6 t22 t23 fun t25 t26 =>
K t16 t25 t26
theorem x_quarter_turns : OkW qP (eP eI eR) (fun a K => n_quarter_turns a.1 a.2.1 a.2.2 K) (fun a => p_quarter_turns a.1 a.2.1 a.2.2) := okW 56 [wd_fraction_of, wd_fraction_bounds, wd_half_turn, wd_less_of, wd_part_of, wd_often] uP_r
noncomputable abbrev wd_quarter_turns : We := wP' e_quarter_turns x_quarter_turns
noncomputable def n_wave_bounds (work rest0 rest1 turns : Nat) (K : Nat → Nat → Bool) : Bool :=
nmod turns (nlit 2) fun t1 =>
sel (neq t1 (nlit 0)) (
n_wave_series work rest0 rest1 rest0 rest1 (nlit 2) fun t4 t5 =>
nmod turns (nlit 4) fun t6 =>
sel (nlt t6 (nlit 2)) (
K t4 t5) (
n_contrary_of t4 t5 fun t9 t10 =>
K t9 t10)) (
nshl (nlit 1) work fun t11 =>
nshl (nlit 1) work fun t13 =>
n_wave_series work rest0 rest1 t11 t13 (nlit 1) fun t16 t17 =>
nmod turns (nlit 4) fun t18 =>
sel (nlt t18 (nlit 2)) (
K t16 t17) (
n_contrary_of t16 t17 fun t21 t22 =>
K t21 t22))
theorem x_wave_bounds : OkW q2' (eP eI (eP eT eI)) (fun a K => n_wave_bounds a.1 a.2.1.1 a.2.1.2 a.2.2 K) (fun a => p_wave_bounds a.1 a.2.1.1 a.2.1.2 a.2.2) := okW 57 [wd_wave_series, wd_contrary_of] uT_r
noncomputable abbrev wd_wave_bounds : We := wT' e_wave_bounds x_wave_bounds
noncomputable def n_need_turns (realm reale : Nat) (K : Bool) : Bool :=
n_sign_of realm reale fun t2 =>
sel (!neq t2 (nlit 0)) (
n_place_of realm reale fun t4 =>
sel (nlt (nlit 512) t4) (
false) (
K)) (
K)
theorem x_need_turns : OkW qN (eP eS eR) (fun a K => n_need_turns a.2.1 a.2.2 K) (fun a => p_need_turns a.2.1 a.2.2) := okW 58 [wd_sign_of, wd_place_of] uN_r
noncomputable abbrev wd_need_turns : We := wN' e_need_turns x_need_turns
noncomputable def n_is_slight (precision realm reale : Nat) (K : Bool → Bool) : Bool :=
n_place_of realm reale fun t2 =>
nmul (nlit 2) t2 fun t3 =>
nsub (nlit 0) precision fun t5 =>
nsub t5 (nlit 4) fun t7 =>
K (nlt t3 t7)
theorem x_is_slight : OkW qB (eP eI eR) (fun a K => n_is_slight a.1 a.2.1 a.2.2 K) (fun a => p_is_slight a.1 a.2.1 a.2.2) := okW 59 [wd_place_of] uB_r
noncomputable abbrev wd_is_slight : We := wB e_is_slight x_is_slight
noncomputable def n_angle_work (precision realm reale : Nat) (K : Nat → Bool) : Bool :=
nmul (nlit 2) precision fun t1 =>
nadd t1 (nlit 12) fun t3 =>
n_place_of realm reale fun t6 =>
nabs t6 fun t7 =>
nadd t3 t7 fun t9 =>
K t9
theorem x_angle_work : OkW qI (eP eI eR) (fun a K => n_angle_work a.1 a.2.1 a.2.2 K) (fun a => p_angle_work a.1 a.2.1 a.2.2) := okW 60 [wd_abs, wd_place_of] uI_r
noncomputable abbrev wd_angle_work : We := wI e_angle_work x_angle_work
noncomputable def n_tan_bounds (work realm reale : Nat) (K : Nat → Nat → Bool) (Kn : Bool) : Bool :=
n_quarter_turns work realm reale fun t2 t3 t4 =>
n_wave_bounds work t3 t4 t2 fun t6 t7 =>
nadd t2 (nlit 1) fun t8 =>
n_wave_bounds work t3 t4 t8 fun t11 t12 =>
sel (nlt t12 (nlit 0)) (
n_contrary_of t6 t7 fun t14 t15 =>
n_contrary_of t11 t12 fun t17 t18 =>
sel (nlt (nlit 0) t17) (
n_quotient_of work t14 t15 t17 t18 fun t20 t21 =>
K t20 t21) (
Kn)) (
sel (nlt (nlit 0) t11) (
n_quotient_of work t6 t7 t11 t12 fun t23 t24 =>
K t23 t24) (
Kn))
theorem x_tan_bounds : OkW qV (eP eI eR) (fun a K => n_tan_bounds a.1 a.2.1 a.2.2 K.1 K.2) (fun a => p_tan_bounds a.1 a.2.1 a.2.2) := okW 63 [wd_quarter_turns, wd_wave_bounds, wd_quotient_of, wd_contrary_of] uV_r
noncomputable abbrev wd_tan_bounds : We := wV' e_tan_bounds x_tan_bounds
noncomputable def n_small_arc (work top bottom : Nat) (K : Nat → Nat → Bool) : Bool :=
nmul (nlit 10) top fun t1 =>
nmul (nlit 7) bottom fun t3 =>
sel (nlt t3 t1) (
n_half_turn work fun t6 t7 =>
n_part_of t6 t7 (nlit 4) fun t9 t10 =>
nsub top bottom fun t11 =>
nadd top bottom fun t13 =>
n_odd_series work t11 t13 (nng 1) fun t16 t17 =>
n_more_of t9 t10 t16 t17 fun t19 t20 =>
K t19 t20) (
nmul (nlit 4) top fun t21 =>
sel (nlt bottom t21) (
nmul (nlit 2) top fun t23 =>
nsub t23 bottom fun t25 =>
nmul (nlit 2) bottom fun t27 =>
nadd t27 top fun t29 =>
n_odd_series work t25 t29 (nng 1) fun t32 t33 =>
n_inverse_series work (nlit 2) (nng 1) fun t35 t36 =>
n_more_of t35 t36 t32 t33 fun t38 t39 =>
K t38 t39) (
n_odd_series work top bottom (nng 1) fun t41 t42 =>
K t41 t42))
theorem x_small_arc : OkW q2' (eP eI (eP eI eI)) (fun a K => n_small_arc a.1 a.2.1 a.2.2 K) (fun a => p_small_arc a.1 a.2.1 a.2.2) := okW 65 [wd_odd_series, wd_more_of, wd_part_of, wd_inverse_series, wd_half_turn] uT_r
noncomputable abbrev wd_small_arc : We := wT' e_small_arc x_small_arc
noncomputable def n_arc_bounds0 (work top bottom : Nat) (K : Nat → Nat → Bool) : Bool :=
sel (nlt top (nlit 0)) (
false) (
sel (nle top bottom) (
n_small_arc work top bottom fun t4 t5 =>
K t4 t5) (
n_half_turn work fun t7 t8 =>
n_part_of t7 t8 (nlit 2) fun t10 t11 =>
n_small_arc work bottom top fun t13 t14 =>
n_less_of t10 t11 t13 t14 fun t16 t17 =>
K t16 t17))
theorem x_arc_bounds0 : OkW q2' (eP eI (eP eI eI)) (fun a K => n_arc_bounds0 a.1 a.2.1 a.2.2 K) (fun a => p_arc_bounds0 a.1 a.2.1 a.2.2) := okW 66 [wd_less_of, wd_contrary_of, wd_small_arc, wd_part_of, wd_half_turn] uT_r
noncomputable abbrev wd_arc_bounds0 : We := wT' e_arc_bounds0 x_arc_bounds0
noncomputable def n_arc_bounds (work top bottom : Nat) (K : Nat → Nat → Bool) : Bool :=
sel (nlt top (nlit 0)) (
nsub (nlit 0) top fun t1 =>
n_arc_bounds0 work t1 bottom fun t4 t5 =>
n_contrary_of t4 t5 fun t7 t8 =>
K t7 t8) (
sel (nle top bottom) (
n_small_arc work top bottom fun t10 t11 =>
K t10 t11) (
n_half_turn work fun t13 t14 =>
n_part_of t13 t14 (nlit 2) fun t16 t17 =>
n_small_arc work bottom top fun t19 t20 =>
n_less_of t16 t17 t19 t20 fun t22 t23 =>
K t22 t23))
theorem x_arc_bounds : OkW q2' (eP eI (eP eI eI)) (fun a K => n_arc_bounds a.1 a.2.1 a.2.2 K) (fun a => p_arc_bounds a.1 a.2.1 a.2.2) := okW 66 [wd_less_of, wd_contrary_of, wd_small_arc, wd_part_of, wd_arc_bounds0, wd_half_turn] uT_r
noncomputable abbrev wd_arc_bounds : We := wT' e_arc_bounds x_arc_bounds
noncomputable def n_arc_within (work bounds0 bounds1 : Nat) (K : Nat → Nat → Bool) : Bool :=
nshl (nlit 1) work fun t1 =>
n_arc_bounds work bounds0 t1 fun t4 t5 =>
nshl (nlit 1) work fun t6 =>
n_arc_bounds work bounds1 t6 fun t9 t10 =>
K t4 t10
theorem x_arc_within : OkW q2' (eP eI eT) (fun a K => n_arc_within a.1 a.2.1 a.2.2 K) (fun a => p_arc_within a.1 a.2.1 a.2.2) := okW 67 [wd_arc_bounds] uT_r
noncomputable abbrev wd_arc_within : We := wT' e_arc_within x_arc_within
noncomputable def n_root_bounds (work top bottom : Nat) (K : Nat → Nat → Bool) : Bool :=
nmul (nlit 2) work fun t1 =>
nshl top t1 fun t3 =>
ndiv t3 bottom fun t5 =>
n_root_below t5 fun t8 =>
nadd t8 (nlit 1) fun t9 =>
K t8 t9
theorem x_root_bounds : OkW q2' (eP eI (eP eI eI)) (fun a K => n_root_bounds a.1 a.2.1 a.2.2 K) (fun a => p_root_bounds a.1 a.2.1 a.2.2) := okW 69 [wd_root_below] uT_r
noncomputable abbrev wd_root_bounds : We := wT' e_root_bounds x_root_bounds
noncomputable def n_need_sine (realm reale : Nat) (K : Bool) : Bool :=
n_fraction_of realm reale fun t2 t3 =>
nabs t2 fun t4 =>
sel (nlt t3 t4) (
false) (
K)
theorem x_need_sine : OkW qN (eP eS eR) (fun a K => n_need_sine a.2.1 a.2.2 K) (fun a => p_need_sine a.2.1 a.2.2) := okW 70 [wd_fraction_of, wd_abs] uN_r
noncomputable abbrev wd_need_sine : We := wN' e_need_sine x_need_sine
noncomputable def n_asin_bounds (work realm reale : Nat) (K : Nat → Nat → Bool) (Kn : Bool) : Bool :=
n_fraction_of realm reale fun t2 t3 =>
nmul t3 t3 fun t4 =>
nmul t2 t2 fun t6 =>
nsub t4 t6 fun t8 =>
nmul t3 t3 fun t10 =>
n_root_bounds work t8 t10 fun t13 t14 =>
sel (nle t13 (nlit 0)) (
Kn) (
n_fraction_bounds work t2 t3 fun t16 t17 =>
n_quotient_of work t16 t17 t13 t14 fun t19 t20 =>
n_arc_within work t19 t20 fun t22 t23 =>
K t22 t23)
theorem x_asin_bounds : OkW qV (eP eI eR) (fun a K => n_asin_bounds a.1 a.2.1 a.2.2 K.1 K.2) (fun a => p_asin_bounds a.1 a.2.1 a.2.2) := okW 71 [wd_fraction_of, wd_root_bounds, wd_arc_within, wd_quotient_of, wd_fraction_bounds] uV_r
noncomputable abbrev wd_asin_bounds : We := wV' e_asin_bounds x_asin_bounds
noncomputable def n_acos_bounds (work realm reale : Nat) (K : Nat → Nat → Bool) : Bool :=
n_fraction_of realm reale fun t2 t3 =>
nsub t3 t2 fun t4 =>
nadd t3 t2 fun t6 =>
n_root_bounds work t4 t6 fun t9 t10 =>
n_arc_within work t9 t10 fun t12 t13 =>
n_often t12 t13 (nlit 2) fun t15 t16 =>
K t15 t16
theorem x_acos_bounds : OkW q2' (eP eI eR) (fun a K => n_acos_bounds a.1 a.2.1 a.2.2 K) (fun a => p_acos_bounds a.1 a.2.1 a.2.2) := okW 74 [wd_fraction_of, wd_often, wd_arc_within, wd_root_bounds] uT_r
noncomputable abbrev wd_acos_bounds : We := wT' e_acos_bounds x_acos_bounds
noncomputable def n_ratio_of_reals (highm highe widem widee : Nat) (K : Nat → Nat → Bool) : Bool :=
nsub highe widee fun t1 =>
n_sign_of widem widee fun t4 =>
nmul highm t4 fun t5 =>
nabs widem fun t7 =>
sel (nle (nlit 0) t1) (
nshl t5 t1 fun t9 =>
K t9 t7) (
nsub (nlit 0) t1 fun t11 =>
nshl t7 t11 fun t13 =>
K t5 t13)
theorem x_ratio_of_reals : OkW q2' (eP eR eR) (fun a K => n_ratio_of_reals a.1.1 a.1.2 a.2.1 a.2.2 K) (fun a => p_ratio_of_reals a.1.1 a.1.2 a.2.1 a.2.2) := okW 76 [wd_abs, wd_sign_of] uT_r
noncomputable abbrev wd_ratio_of_reals : We := wT' e_ratio_of_reals x_ratio_of_reals
noncomputable def ndec1 (prec work : Nat) (kF : Nat → (Nat → Nat → Bool) → Bool → Bool) (K : Nat → Nat → Bool) (Kf : Bool) : Bool :=
  ck (Nat.ble OF prec) (ck (Nat.ble OF work) (kF work (fun a b => krd (Nat.sub prec OF) (Nat.sub work OF) a fun m e => krd (Nat.sub prec OF) (Nat.sub work OF) b fun m' e' => sel (Nat.beq m m') (sel (Nat.beq e e') (K m e) Kf) Kf) Kf))
noncomputable def ndec (prec work : Nat) (kF : Nat → (Nat → Nat → Bool) → Bool → Bool) (K : Nat → Nat → Bool) : Bool :=
  ndec1 prec work kF K (nmul (nlit 2) work fun w2 => ndec1 prec w2 kF K false)
theorem dec_none {prec work : Int} {Fn : Int → Option (Option (Int × Int))} {n : Nat} (h1 : Fn work = some none) : p_decided_loop prec Fn (n + 1) work = (gmul 2 work).bind fun w => p_decided_loop prec Fn n w := by
  rw [p_decided_loop, h1, Option.bind_some]
theorem dec_some {prec work a b x m e m' e' : Int} {s : Bool} {Fn : Int → Option (Option (Int × Int))} {n : Nat} (h1 : Fn work = some (some (a, b))) (h2 : gshl 1 work = some x) (h3 : p_rounded prec a x = some (m, e)) (h4 : p_rounded prec b x = some (m', e')) (h5 : p_same_real m e m' e' = some s) :
    p_decided_loop prec Fn (n + 1) work = if s = true then some (m, e) else (gmul 2 work).bind fun w => p_decided_loop prec Fn n w := by
  rw [p_decided_loop, h1, Option.bind_some]
  dsimp only
  rw [h2, Option.bind_some, h3, Option.bind_some]
  dsimp only
  rw [Option.bind_some, h4, Option.bind_some]
  dsimp only
  rw [h5, Option.bind_some]
theorem same_eq (m e m' e' : Int) : p_same_real m e m' e' = some (decide (m = m') && decide (e = e')) := by
  unfold p_same_real
  by_cases h : m = m'
  · rw [if_pos (decide_eq_true h), decide_eq_true h]; rfl
  · rw [if_neg (by rw [decide_eq_true_eq]; exact h), decide_eq_false h]; rfl
theorem dec_inj {a b : Nat} : dec a = dec b ↔ a = b := by unfold dec; omega
theorem ndec1_s {prec work : Nat} {Fn : Int → Option (Option (Int × Int))} {kF : Nat → (Nat → Nat → Bool) → Bool → Bool} {K : Nat → Nat → Bool} {Kf : Bool} (hF : ∀ (w : Nat) (K : Nat → Nat → Bool) (Kn : Bool), kF w K Kn = true → ∃ r, Fn (dec w) = some r ∧ opn K Kn r)
    (h : ndec1 prec work kF K Kf = true) (n : Nat) : (∃ r, p_decided_loop (dec prec) Fn (n + 1) (dec work) = some r ∧ ∃ c d, r = (dec c, dec d) ∧ K c d = true) ∨ (Kf = true ∧ p_decided_loop (dec prec) Fn (n + 1) (dec work) = (gmul 2 (dec work)).bind fun w => p_decided_loop (dec prec) Fn n w) := by
  obtain ⟨hp, h⟩ := ckb h
  obtain ⟨hw0, h⟩ := ckb h
  obtain ⟨r, h1, h⟩ := hF _ _ _ h
  rcases r with _ | ⟨a, b⟩
  · exact .inr ⟨h, dec_none h1⟩
  · obtain ⟨a', b', rfl, rfl, h⟩ := h
    obtain ⟨hw, _, h3, m, e, rfl, h⟩ := krd_s h
    obtain ⟨_, _, h4, m', e', rfl, h⟩ := krd_s h
    have hp' : ((Nat.sub prec OF : Nat) : Int) = dec prec := (dec_pos hp).symm
    have hw' : ((Nat.sub work OF : Nat) : Int) = dec work := (dec_pos hw0).symm
    rw [hp'] at h3 h4
    have e0 := dec_some (n := n) h1 (by rw [dec_pos hw0]; exact gshl_one _ (Nat.le_trans hw (by decide))) h3 h4 (same_eq _ _ _ _)
    rcases selq h with ⟨hs, h⟩ | ⟨hs, h⟩
    · rcases selq h with ⟨hs', h⟩ | ⟨hs', h⟩
      · exact .inl ⟨_, e0.trans (if_pos (by rw [hs, hs']; simp)), _, _, rfl, h⟩
      · exact .inr ⟨h, e0.trans (if_neg (by rw [decide_eq_false (show ¬ dec e = dec e' from fun q => hs' (dec_inj.mp q)), Bool.and_false]; exact Bool.false_ne_true))⟩
    · exact .inr ⟨h, e0.trans (if_neg (by rw [decide_eq_false (show ¬ dec m = dec m' from fun q => hs (dec_inj.mp q)), Bool.false_and]; exact Bool.false_ne_true))⟩
theorem ndec_s {prec work : Nat} {x y : Int} {Fn : Int → Option (Option (Int × Int))} {kF : Nat → (Nat → Nat → Bool) → Bool → Bool} {K : Nat → Nat → Bool} (hx : dec prec = x) (hy : dec work = y) (hF : ∀ (w : Nat) (K : Nat → Nat → Bool) (Kn : Bool), kF w K Kn = true → ∃ r, Fn (dec w) = some r ∧ opn K Kn r)
    (h : ndec prec work kF K = true) : ∃ r, p_decided x y Fn = some r ∧ ∃ c d, r = (dec c, dec d) ∧ K c d = true := by
  subst hx hy
  unfold p_decided
  rcases ndec1_s hF h 5 with h | ⟨h, e⟩
  · exact h
  · obtain ⟨w2, h1, h⟩ := nmul_s (dec_lit 2) rfl h
    rcases ndec1_s hF h 4 with h | ⟨h, _⟩
    · obtain ⟨r, h2, h⟩ := h
      refine ⟨r, ?_, h⟩
      rw [e, show gmul 2 (dec work) = some (dec w2) from h1, Option.bind_some]; exact h2
    · cases h
noncomputable def n_half (work : Nat) (K : Nat → Nat → Bool) (Kn : Bool) : Bool := n_half_turn work K
theorem n_half_s {work : Nat} {x : Int} {K : Nat → Nat → Bool} {Kn : Bool} (hx : dec work = x) (h : n_half work K Kn = true) : ∃ r, f_half x = some r ∧ opn K Kn r := by
  obtain ⟨_, h1, a, b, rfl, h⟩ := n_half_turn_s hx (show n_half_turn work K = true from h)
  unfold f_half
  exact bind_ex ⟨_, h1, _, rfl, _, _, rfl, rfl, h⟩
noncomputable def n_quarter (sign work : Nat) (K : Nat → Nat → Bool) (Kn : Bool) : Bool := n_half_turn work fun a b => n_part_of a b (nlit 2) fun c d => n_often c d sign K
theorem n_quarter_s {sign work : Nat} {x y : Int} {K : Nat → Nat → Bool} {Kn : Bool} (hs : dec sign = y) (hx : dec work = x) (h : n_quarter sign work K Kn = true) : ∃ r, p_quarter y x = some r ∧ opn K Kn r := by
  obtain ⟨_, h1, a, b, rfl, h⟩ := n_half_turn_s hx (show n_half_turn work _ = true from h)
  unfold p_quarter
  refine bind_ex ⟨_, h1, ?_⟩
  obtain ⟨_, h2, c, d, rfl, h⟩ := n_part_of_s rfl rfl (dec_lit 2) h
  refine bind_ex ⟨_, h2, ?_⟩
  obtain ⟨_, h3, u, v, rfl, h⟩ := n_often_s rfl rfl hs h
  exact bind_ex ⟨_, h3, _, rfl, _, _, rfl, rfl, h⟩
noncomputable abbrev cvW (v : W) : Option KF := match v with | .fn k => some k | .gl g => if Fast.sEq g (Str.ofString "half_turn") = true then some n_half else none | _ => none
theorem cv_r {w : W} {v : V} {k : KF} (r : WR w v) (h : cvW w = some k) : ∃ Fn, cvD v = some Fn ∧ FnR k Fn := by
  cases r with
  | fn f => obtain rfl := Option.some.inj h; exact ⟨_, rfl, f⟩
  | gl g =>
    obtain ⟨h1, rfl⟩ := if_some h
    exact ⟨f_half, if_pos h1, fun {a K Kn} h => n_half_s rfl h⟩
  | _ => exact nope h
noncomputable abbrev w_decided : SemW := fun ws K => aW intW (fun p ws => aW intW (fun w ws => match ws with
  | [] => false
  | v :: ws => nilB ws (someB (cvW v) fun k => ndec p w k fun c d => K (.real c d))) ws) ws
theorem r_decided {α : Type} {Q : Option α → Prop} : SemR Q w_decided m_decided := fun ws vs K' K r hK h =>
  eI.ok (k := fun p vs => aI (fun w vs => match vs with | [] => none | v :: vs => a0 (someK (cvD v) fun Fn => (p_decided p w Fn).bind fun x => K (mR x)) vs) vs) r (fun p ws vs r h => eI.ok (k := fun w vs => match vs with | [] => none | v :: vs => a0 (someK (cvD v) fun Fn => (p_decided (dec p) w Fn).bind fun x => K (mR x)) vs) r (fun w ws vs r h => by
    cases r with
    | tup0 => exact no h
    | tup r1 r2 => exact a0_r r2 h fun h => someB_s h fun k hk h => (cv_r r1 hk).elim fun Fn hF => sK (Q := Q) hF.1 (by
        obtain ⟨x, e, c, d, e2, h⟩ := ndec_s rfl rfl (fun w K Kn h => hF.2 h) h
        subst e2
        exact bnP e (hK _ _ (.real c d) h))) h) h
noncomputable abbrev w_slight_arc : SemW := fun _ _ => false
theorem r_slight_arc {α : Type} {Q : Option α → Prop} {g : Sem' α} : SemR Q w_slight_arc g := fun _ _ _ _ _ _ h => no h
noncomputable abbrev w_quarter_of : SemW := semW eI (fun a K => K a) fun s => W.fn (n_quarter s)
theorem r_quarter_of {α : Type} {Q : Option α → Prop} : SemR Q w_quarter_of e_quarter_of.m := fun ws vs K' K r hK h =>
  eI.ok (k := fun a => a0 ((some (p_quarter a)).bind fun x => K (.fn x))) r (fun a ws vs r h => a0_r r h fun h => hK _ _ (.fn fun {b K Kn} h => n_quarter_s rfl rfl h) h) h
noncomputable abbrev wd_decided : We := ⟨e_decided, w_decided, r_decided⟩
noncomputable abbrev wd_slight_arc : We := ⟨e_slight_arc, w_slight_arc, r_slight_arc⟩
noncomputable abbrev wd_quarter_of : We := ⟨e_quarter_of, w_quarter_of, r_quarter_of⟩
noncomputable def n_exp_real_in (real_m real_e times_0 work : Nat) (K : Nat → Nat → Bool) (Kn : Bool) : Bool :=
n_log_of_two work fun t502 t503 =>
n_fraction_of real_m real_e fun t505 t506 =>
n_fraction_bounds work t505 t506 fun t508 t509 =>
n_often t502 t503 times_0 fun t511 t512 =>
n_less_of t508 t509 t511 t512 fun t514 t515 =>
n_exp_series work t514 t515 fun t517 t518 =>
K t517 t518
noncomputable def n_exp_real (precision realm reale : Nat) (K : Nat → Nat → Bool) : Bool :=
n_sign_of realm reale fun t2 =>
sel (neq t2 (nlit 0)) (
K (nlit 1) (nlit 0)) (
n_place_of realm reale fun t4 =>
sel (nlt (nlit 17) t4) (
false) (
n_place_of realm reale fun t6 =>
nsub (nlit 0) precision fun t7 =>
nsub t7 (nlit 2) fun t9 =>
sel (nlt t6 t9) (
K (nlit 1) (nlit 0)) (
nadd precision (nlit 12) fun t11 =>
nadd t11 (nlit 17) fun t13 =>
n_reduced_by_twos t13 realm reale fun t16 t17 t18 =>
ndec precision t13 (n_exp_real_in realm reale t16) fun t19 t20 =>
nadd t20 t16 fun t22 =>
n_lean t19 t22 fun t25 t26 =>
K t25 t26)))
theorem x_exp_real : OkW q2' (eP eI eR) (fun a K => n_exp_real a.1 a.2.1 a.2.2 K) (fun a => p_exp_real a.1 a.2.1 a.2.2) := okC 13 53 "bounds_at" [wd_decided, wd_lean, wd_sign_of, wd_Real, wd_place_of, wd_reduced_by_twos, wd_log_of_two, wd_fraction_of, wd_exp_series, wd_less_of, wd_fraction_bounds, wd_often] uR_r
theorem n_exp_real_s {a0 a1 a2 : Nat} {x0 x1 x2 : Int} {K : Nat → Nat → Bool} (h0 : dec a0 = x0) (h1 : dec a1 = x1) (h2 : dec a2 = x2) (h : n_exp_real a0 a1 a2 K = true) : q2' K (p_exp_real x0 x1 x2) := by
  subst h0 h1 h2
  exact x_exp_real (a0, (a1, a2)) K h
noncomputable def n_log_real_in (real_m real_e work : Nat) (K : Nat → Nat → Bool) (Kn : Bool) : Bool :=
n_log_bounds work real_m real_e fun t502 t503 =>
K t502 t503
noncomputable def n_log_real (precision realm reale : Nat) (K : Nat → Nat → Bool) : Bool :=
n_sign_of realm reale fun t2 =>
sel (nle t2 (nlit 0)) (
false) (
sel (neq realm (nlit 1)) (
sel (neq reale (nlit 0)) (
K (nlit 0) (nlit 0)) (
nmul (nlit 2) precision fun t3 =>
nadd t3 (nlit 12) fun t5 =>
ndec precision t5 (n_log_real_in realm reale) fun t7 t8 =>
K t7 t8)) (
nmul (nlit 2) precision fun t10 =>
nadd t10 (nlit 12) fun t12 =>
ndec precision t12 (n_log_real_in realm reale) fun t14 t15 =>
K t14 t15))
theorem x_log_real : OkW q2' (eP eI eR) (fun a K => n_log_real a.1 a.2.1 a.2.2 K) (fun a => p_log_real a.1 a.2.1 a.2.2) := okC 13 55 "<lambda>" [wd_decided, wd_sign_of, wd_Real, wd_log_bounds] uR_r
theorem n_log_real_s {a0 a1 a2 : Nat} {x0 x1 x2 : Int} {K : Nat → Nat → Bool} (h0 : dec a0 = x0) (h1 : dec a1 = x1) (h2 : dec a2 = x2) (h : n_log_real a0 a1 a2 K = true) : q2' K (p_log_real x0 x1 x2) := by
  subst h0 h1 h2
  exact x_log_real (a0, (a1, a2)) K h
noncomputable def n_sin_real_in (real_m real_e work : Nat) (K : Nat → Nat → Bool) (Kn : Bool) : Bool :=
n_quarter_turns work real_m real_e fun t502 t503 t504 =>
n_wave_bounds work t503 t504 t502 fun t506 t507 =>
K t506 t507
noncomputable def n_sin_real (precision realm reale : Nat) (K : Nat → Nat → Bool) : Bool :=
n_need_turns realm reale (
n_sign_of realm reale fun t3 =>
sel (neq t3 (nlit 0)) (
K realm reale) (
n_is_slight precision realm reale fun t5 =>
sel t5 (
K realm reale) (
n_angle_work precision realm reale fun t7 =>
ndec precision t7 (n_sin_real_in realm reale) fun t8 t9 =>
K t8 t9)))
theorem x_sin_real : OkW q2' (eP eI eR) (fun a K => n_sin_real a.1 a.2.1 a.2.2 K) (fun a => p_sin_real a.1 a.2.1 a.2.2) := okC 13 61 "bounds_at" [wd_need_turns, wd_decided, wd_is_slight, wd_quarter_turns, wd_wave_bounds, wd_angle_work, wd_sign_of] uR_r
theorem n_sin_real_s {a0 a1 a2 : Nat} {x0 x1 x2 : Int} {K : Nat → Nat → Bool} (h0 : dec a0 = x0) (h1 : dec a1 = x1) (h2 : dec a2 = x2) (h : n_sin_real a0 a1 a2 K = true) : q2' K (p_sin_real x0 x1 x2) := by
  subst h0 h1 h2
  exact x_sin_real (a0, (a1, a2)) K h
noncomputable def n_cos_real_in (real_m real_e work : Nat) (K : Nat → Nat → Bool) (Kn : Bool) : Bool :=
n_quarter_turns work real_m real_e fun t502 t503 t504 =>
nadd t502 (nlit 1) fun t505 =>
n_wave_bounds work t503 t504 t505 fun t508 t509 =>
K t508 t509
noncomputable def n_cos_real (precision realm reale : Nat) (K : Nat → Nat → Bool) : Bool :=
n_need_turns realm reale (
n_sign_of realm reale fun t3 =>
sel (neq t3 (nlit 0)) (
K (nlit 1) (nlit 0)) (
n_is_slight precision realm reale fun t5 =>
sel t5 (
K (nlit 1) (nlit 0)) (
n_angle_work precision realm reale fun t7 =>
ndec precision t7 (n_cos_real_in realm reale) fun t8 t9 =>
K t8 t9)))
theorem x_cos_real : OkW q2' (eP eI eR) (fun a K => n_cos_real a.1 a.2.1 a.2.2 K) (fun a => p_cos_real a.1 a.2.1 a.2.2) := okC 13 62 "bounds_at" [wd_need_turns, wd_decided, wd_is_slight, wd_Real, wd_quarter_turns, wd_wave_bounds, wd_angle_work, wd_sign_of] uR_r
theorem n_cos_real_s {a0 a1 a2 : Nat} {x0 x1 x2 : Int} {K : Nat → Nat → Bool} (h0 : dec a0 = x0) (h1 : dec a1 = x1) (h2 : dec a2 = x2) (h : n_cos_real a0 a1 a2 K = true) : q2' K (p_cos_real x0 x1 x2) := by
  subst h0 h1 h2
  exact x_cos_real (a0, (a1, a2)) K h
noncomputable def n_tan_real_in (real_m real_e work : Nat) (K : Nat → Nat → Bool) (Kn : Bool) : Bool :=
n_tan_bounds work real_m real_e (fun t503 t504 =>
K t503 t504) (
Kn)
noncomputable def n_tan_real (precision realm reale : Nat) (K : Nat → Nat → Bool) : Bool :=
n_need_turns realm reale (
n_sign_of realm reale fun t3 =>
sel (neq t3 (nlit 0)) (
K realm reale) (
n_is_slight precision realm reale fun t5 =>
sel t5 (
K realm reale) (
n_angle_work precision realm reale fun t7 =>
ndec precision t7 (n_tan_real_in realm reale) fun t8 t9 =>
K t8 t9)))
theorem x_tan_real : OkW q2' (eP eI eR) (fun a K => n_tan_real a.1 a.2.1 a.2.2 K) (fun a => p_tan_real a.1 a.2.1 a.2.2) := okC 13 64 "<lambda>" [wd_need_turns, wd_decided, wd_is_slight, wd_angle_work, wd_sign_of, wd_tan_bounds] uR_r
theorem n_tan_real_s {a0 a1 a2 : Nat} {x0 x1 x2 : Int} {K : Nat → Nat → Bool} (h0 : dec a0 = x0) (h1 : dec a1 = x1) (h2 : dec a2 = x2) (h : n_tan_real a0 a1 a2 K = true) : q2' K (p_tan_real x0 x1 x2) := by
  subst h0 h1 h2
  exact x_tan_real (a0, (a1, a2)) K h
noncomputable def n_atan_real_in (bottom_0 top_0 work : Nat) (K : Nat → Nat → Bool) (Kn : Bool) : Bool :=
n_arc_bounds work top_0 bottom_0 fun t502 t503 =>
K t502 t503
noncomputable def n_atan_real (precision realm reale : Nat) (K : Nat → Nat → Bool) : Bool :=
n_sign_of realm reale fun t2 =>
sel (neq t2 (nlit 0)) (
K realm reale) (
n_is_slight precision realm reale fun t4 =>
sel t4 (
K realm reale) (
n_fraction_of realm reale fun t6 t7 =>
nmul (nlit 2) precision fun t8 =>
nadd t8 (nlit 12) fun t10 =>
n_place_of realm reale fun t13 =>
nsub (nlit 0) t13 fun t14 =>
nmax (nlit 0) t14 fun t16 =>
nadd t10 t16 fun t18 =>
ndec precision t18 (n_atan_real_in t7 t6) fun t20 t21 =>
K t20 t21))
theorem x_atan_real : OkW q2' (eP eI eR) (fun a K => n_atan_real a.1 a.2.1 a.2.2 K) (fun a => p_atan_real a.1 a.2.1 a.2.2) := okC 13 68 "<lambda>" [wd_fraction_of, wd_decided, wd_is_slight, wd_max, wd_sign_of, wd_arc_bounds, wd_place_of] uR_r
theorem n_atan_real_s {a0 a1 a2 : Nat} {x0 x1 x2 : Int} {K : Nat → Nat → Bool} (h0 : dec a0 = x0) (h1 : dec a1 = x1) (h2 : dec a2 = x2) (h : n_atan_real a0 a1 a2 K = true) : q2' K (p_atan_real x0 x1 x2) := by
  subst h0 h1 h2
  exact x_atan_real (a0, (a1, a2)) K h
noncomputable def n_acos_real_in (real_m real_e work : Nat) (K : Nat → Nat → Bool) (Kn : Bool) : Bool :=
n_acos_bounds work real_m real_e fun t502 t503 =>
K t502 t503
noncomputable def n_acos_real (precision realm reale : Nat) (K : Nat → Nat → Bool) : Bool :=
n_need_sine realm reale (
sel (neq realm (nlit 1)) (
sel (neq reale (nlit 0)) (
K (nlit 0) (nlit 0)) (
nmul (nlit 2) precision fun t2 =>
nadd t2 (nlit 12) fun t4 =>
sel (neq realm (nng 1)) (
sel (neq reale (nlit 0)) (
ndec precision t4 n_half fun t6 t7 =>
K t6 t7) (
ndec precision t4 (n_acos_real_in realm reale) fun t9 t10 =>
K t9 t10)) (
ndec precision t4 (n_acos_real_in realm reale) fun t12 t13 =>
K t12 t13))) (
nmul (nlit 2) precision fun t15 =>
nadd t15 (nlit 12) fun t17 =>
sel (neq realm (nng 1)) (
sel (neq reale (nlit 0)) (
ndec precision t17 n_half fun t19 t20 =>
K t19 t20) (
ndec precision t17 (n_acos_real_in realm reale) fun t22 t23 =>
K t22 t23)) (
ndec precision t17 (n_acos_real_in realm reale) fun t25 t26 =>
K t25 t26)))
theorem x_acos_real : OkW q2' (eP eI eR) (fun a K => n_acos_real a.1 a.2.1 a.2.2 K) (fun a => p_acos_real a.1 a.2.1 a.2.2) := okC 13 75 "<lambda>" [wd_need_sine, wd_decided, wd_Real, wd_half_turn, wd_acos_bounds] uR_r
theorem n_acos_real_s {a0 a1 a2 : Nat} {x0 x1 x2 : Int} {K : Nat → Nat → Bool} (h0 : dec a0 = x0) (h1 : dec a1 = x1) (h2 : dec a2 = x2) (h : n_acos_real a0 a1 a2 K = true) : q2' K (p_acos_real x0 x1 x2) := by
  subst h0 h1 h2
  exact x_acos_real (a0, (a1, a2)) K h
noncomputable def n_asin_real_in (real_m real_e work : Nat) (K : Nat → Nat → Bool) (Kn : Bool) : Bool :=
n_asin_bounds work real_m real_e (fun t503 t504 =>
K t503 t504) (
Kn)
noncomputable def n_asin_real (precision realm reale : Nat) (K : Nat → Nat → Bool) : Bool :=
n_need_sine realm reale (
n_sign_of realm reale fun t3 =>
sel (neq t3 (nlit 0)) (
K realm reale) (
n_is_slight precision realm reale fun t5 =>
sel t5 (
K realm reale) (
nmul (nlit 2) precision fun t6 =>
nadd t6 (nlit 12) fun t8 =>
n_place_of realm reale fun t11 =>
nsub (nlit 0) t11 fun t12 =>
nmax (nlit 0) t12 fun t14 =>
nadd t8 t14 fun t16 =>
nabs realm fun t18 =>
sel (neq t18 (nlit 1)) (
sel (neq reale (nlit 0)) (
n_sign_of realm reale fun t21 =>
ndec precision t16 (n_quarter t21) fun t22 t23 =>
K t22 t23) (
ndec precision t16 (n_asin_real_in realm reale) fun t25 t26 =>
K t25 t26)) (
ndec precision t16 (n_asin_real_in realm reale) fun t28 t29 =>
K t28 t29))))
theorem x_asin_real : OkW q2' (eP eI eR) (fun a K => n_asin_real a.1 a.2.1 a.2.2 K) (fun a => p_asin_real a.1 a.2.1 a.2.2) := okC 13 73 "<lambda>" [wd_need_sine, wd_decided, wd_is_slight, wd_max, wd_sign_of, wd_abs, wd_quarter_of, wd_asin_bounds, wd_place_of] uR_r
theorem n_asin_real_s {a0 a1 a2 : Nat} {x0 x1 x2 : Int} {K : Nat → Nat → Bool} (h0 : dec a0 = x0) (h1 : dec a1 = x1) (h2 : dec a2 = x2) (h : n_asin_real a0 a1 a2 K = true) : q2' K (p_asin_real x0 x1 x2) := by
  subst h0 h1 h2
  exact x_asin_real (a0, (a1, a2)) K h
noncomputable def n_atan_two_real_in (bottom_0 top_0 turn_0 work : Nat) (K : Nat → Nat → Bool) (Kn : Bool) : Bool :=
n_arc_bounds work top_0 bottom_0 fun t502 t503 =>
n_half_turn work fun t505 t506 =>
n_often t505 t506 turn_0 fun t508 t509 =>
n_more_of t502 t503 t508 t509 fun t511 t512 =>
K t511 t512
noncomputable def n_atan_two_real (precision highm highe widem widee : Nat) (K : Nat → Nat → Bool) : Bool :=
n_sign_of widem widee fun t2 =>
sel (neq t2 (nlit 0)) (
n_sign_of highm highe fun t4 =>
sel (neq t4 (nlit 0)) (
false) (
nadd precision (nlit 12) fun t5 =>
n_sign_of highm highe fun t8 =>
ndec precision t5 (n_quarter t8) fun t9 t10 =>
K t9 t10)) (
n_sign_of highm highe fun t13 =>
sel (neq t13 (nlit 0)) (
n_sign_of widem widee fun t15 =>
sel (nlt (nlit 0) t15) (
K (nlit 0) (nlit 0)) (
nadd precision (nlit 12) fun t16 =>
ndec precision t16 n_half fun t18 t19 =>
K t18 t19)) (
n_ratio_of_reals highm highe widem widee fun t22 t23 =>
nbits t23 fun t24 =>
nabs t22 fun t26 =>
nbits t26 fun t28 =>
nsub t24 t28 fun t30 =>
nmax (nlit 0) t30 fun t32 =>
n_sign_of widem widee fun t35 =>
sel (nlt (nlit 0) t35) (
nadd precision (nlit 4) fun t36 =>
sel (nlt t36 t32) (
nabs t22 fun t38 =>
false) (
n_sign_of widem widee fun t41 =>
sel (nlt (nlit 0) t41) (
nmul (nlit 2) precision fun t42 =>
nadd t42 (nlit 12) fun t44 =>
nadd t44 t32 fun t46 =>
ndec precision t46 (n_atan_two_real_in t23 t22 (nlit 0)) fun t48 t49 =>
K t48 t49) (
n_sign_of highm highe fun t52 =>
nmul (nlit 2) precision fun t53 =>
nadd t53 (nlit 12) fun t55 =>
nadd t55 t32 fun t57 =>
ndec precision t57 (n_atan_two_real_in t23 t22 t52) fun t59 t60 =>
K t59 t60))) (
n_sign_of widem widee fun t63 =>
sel (nlt (nlit 0) t63) (
nmul (nlit 2) precision fun t64 =>
nadd t64 (nlit 12) fun t66 =>
nadd t66 t32 fun t68 =>
ndec precision t68 (n_atan_two_real_in t23 t22 (nlit 0)) fun t70 t71 =>
K t70 t71) (
n_sign_of highm highe fun t74 =>
nmul (nlit 2) precision fun t75 =>
nadd t75 (nlit 12) fun t77 =>
nadd t77 t32 fun t79 =>
ndec precision t79 (n_atan_two_real_in t23 t22 t74) fun t81 t82 =>
K t81 t82))))
theorem x_atan_two_real : OkW q2' (eP eI (eP eR eR)) (fun a K => n_atan_two_real a.1 a.2.1.1 a.2.1.2 a.2.2.1 a.2.2.2 K) (fun a => p_atan_two_real a.1 a.2.1.1 a.2.1.2 a.2.2.1 a.2.2.2) := okC 13 78 "bounds_at" [wd_ratio_of_reals, wd_max, wd_decided, wd_sign_of, wd_slight_arc, wd_more_of, wd_quarter_of, wd_Real, wd_half_turn, wd_abs, wd_arc_bounds, wd_often, wd_negative] uR_r
theorem n_atan_two_real_s {a0 a1 a2 a3 a4 : Nat} {x0 x1 x2 x3 x4 : Int} {K : Nat → Nat → Bool} (h0 : dec a0 = x0) (h1 : dec a1 = x1) (h2 : dec a2 = x2) (h3 : dec a3 = x3) (h4 : dec a4 = x4) (h : n_atan_two_real a0 a1 a2 a3 a4 K = true) : q2' K (p_atan_two_real x0 x1 x2 x3 x4) := by
  subst h0 h1 h2 h3 h4
  exact x_atan_two_real (a0, (a1, a2), (a3, a4)) K h
end Mine
end
section
namespace Mine
noncomputable def sg (x : Int) : Int := b2i (decide (0 < x)) - b2i (decide (x < 0))
theorem sg_pos {x : Int} (h : 0 < x) : sg x = 1 := by unfold sg; rw [decide_eq_true h, decide_eq_false (by omega)]; rfl
theorem sg_neg {x : Int} (h : x < 0) : sg x = -1 := by unfold sg; rw [decide_eq_false (by omega), decide_eq_true h]; rfl
theorem sg_or (x : Int) : (0 < x ∧ sg x = 1) ∨ (x = 0 ∧ sg x = 0) ∨ (x < 0 ∧ sg x = -1) := by
  rcases Int.lt_trichotomy x 0 with h | h | h
  · exact .inr (.inr ⟨h, sg_neg h⟩)
  · exact .inr (.inl ⟨h, by rw [h]; rfl⟩)
  · exact .inl ⟨h, sg_pos h⟩
theorem sg_mul {x p : Int} (hp : 0 < p) : sg (x * p) = sg x := by
  rcases sg_or x with ⟨h, e⟩ | ⟨h, e⟩ | ⟨h, e⟩
  · rw [e, sg_pos (Int.mul_pos h hp)]
  · rw [h, Int.zero_mul]
  · rw [e, sg_neg (Int.mul_neg_of_neg_of_pos h hp)]
theorem sg_negate (x : Int) : sg (-x) = -sg x := by
  rcases sg_or x with ⟨h, e⟩ | ⟨h, e⟩ | ⟨h, e⟩
  · rw [e, sg_neg (by omega)]
  · rw [h]; rfl
  · rw [e, sg_pos (by omega)]; rfl
theorem sm_sg (x : Int) : Sm (sg x) := by
  rcases sg_or x with ⟨h, e⟩ | ⟨h, e⟩ | ⟨h, e⟩ <;> rw [e] <;> unfold Sm <;> first | exact Nat.one_lt_two_pow (by decide) | exact two_pos 8000
noncomputable def vl (m e : Int) : Int := m * ((2 ^ (e + 128).toNat : Nat) : Int)
theorem vl_neg (m e : Int) : vl (-m) e = -vl m e := by unfold vl; rw [Int.neg_mul]
theorem pw_pos (k : Nat) : (0 : Int) < ((2 ^ k : Nat) : Int) := by have := two_pos k; omega
theorem sg_vl (m e : Int) : sg (vl m e) = sg m := sg_mul (pw_pos _)
structure Fi (m e : Int) : Prop where
  sm : Sm m
  lo : -128 ≤ e
  hi : e ≤ 872
theorem Fi.neg {m e : Int} (h : Fi m e) : Fi (-m) e := ⟨h.sm.neg, h.lo, h.hi⟩
theorem sign_of_eq (m e : Int) : p_sign_of m e = some (sg m) := by unfold p_sign_of p_sign_of_whole; rfl
theorem nbv_lo {n : Nat} (h : 1 ≤ n) : 2 ^ (nbv n - 1) ≤ n := by
  unfold nbv; rw [if_neg (by omega)]
  exact Nat.log2_self_le (by omega)
theorem nbv_hi (n : Nat) : n < 2 ^ nbv n := by
  unfold nbv
  split
  · rename_i h; subst h; exact two_pos 0
  · exact Nat.lt_log2_self
theorem nbv_pos {n : Nat} (h : 1 ≤ n) : 1 ≤ nbv n := by unfold nbv; rw [if_neg (by omega)]; omega
theorem place_lt {a b x y : Nat} (ha : 1 ≤ a) (h : nbv b + y < nbv a + x) : b * 2 ^ y < a * 2 ^ x := by
  have h1 : b * 2 ^ y < 2 ^ (nbv b + y) := by rw [Nat.pow_add]; exact Nat.mul_lt_mul_of_pos_right (nbv_hi b) (two_pos y)
  have h2 : 2 ^ (nbv a - 1 + x) ≤ a * 2 ^ x := by rw [Nat.pow_add]; exact Nat.mul_le_mul_right _ (nbv_lo ha)
  have h3 : 2 ^ (nbv b + y) ≤ 2 ^ (nbv a - 1 + x) := Nat.pow_le_pow_right (by decide) (by have := nbv_pos ha; omega)
  omega
theorem pmul (x y : Nat) : ((2 ^ x : Nat) : Int) * ((2 ^ y : Nat) : Int) = ((2 ^ (x + y) : Nat) : Int) := by rw [Nat.pow_add, Int.natCast_mul]
theorem place_eq (a : Nat) (e : Int) : p_place_of (a : Int) e = some ((nbv a : Int) + e) := by unfold p_place_of; rw [size_abs, Int.natAbs_natCast]; rfl
theorem Fi.lift {m e e' : Int} (f : Fi m e) (l : -128 ≤ e') (h : e' ≤ e) : gshl m (e - e') = some (m * 2 ^ (e - e').toNat) ∧ (e - e').toNat + (e' + 128).toNat = (e + 128).toNat := by
  have u := f.hi
  exact ⟨gshl_of f.sm (by omega) (by omega), by clear u f; omega⟩
theorem vl_low {m e e' : Int} (h : (e - e').toNat + (e' + 128).toNat = (e + 128).toNat) : vl m e = m * 2 ^ (e - e').toNat * ((2 ^ (e' + 128).toNat : Nat) : Int) := by
  unfold vl; rw [Int.mul_assoc, ← pow_cast, pmul, h]
theorem nat_lt {x y : Nat} {e e' : Int} (h : (y : Int) + e' < (x : Int) + e) (l : -128 ≤ e) (l' : -128 ≤ e') : y + (e' + 128).toNat < x + (e + 128).toNat := by omega
theorem vl_lt {a b : Nat} {e e' : Int} (ha : 1 ≤ a) (l : -128 ≤ e) (l' : -128 ≤ e') (h : (nbv b : Int) + e' < (nbv a : Int) + e) : vl (b : Int) e' < vl (a : Int) e := by
  unfold vl
  rw [← Int.natCast_mul, ← Int.natCast_mul]
  exact Int.ofNat_lt.mpr (place_lt ha (nat_lt h l l'))
theorem sg_sub_pos {x y : Int} (h : y < x) : sg (x - y) = 1 := sg_pos (Int.sub_pos_of_lt h)
theorem sg_sub_neg {x y : Int} (h : x < y) : sg (x - y) = -1 := sg_neg (Int.sub_neg_of_lt h)
theorem mag_eq {a b : Nat} {e e' : Int} (ha : 1 ≤ a) (hb : 1 ≤ b) (f1 : Fi (a : Int) e) (f2 : Fi (b : Int) e') : p_compare_magnitudes (a : Int) e (b : Int) e' = some (sg (vl (a : Int) e - vl (b : Int) e')) := by
  refine bnP (P := fun o => o = _) (place_eq a e) (bnP (P := fun o => o = _) (place_eq b e') ?_)
  by_cases hp : (nbv a : Int) + e = (nbv b : Int) + e'
  · refine ifF (P := fun o => o = _) (by rw [decide_eq_true hp]; rfl) ?_
    have l : -128 ≤ min e e' := Int.le_min.mpr ⟨f1.lo, f2.lo⟩
    obtain ⟨s1, t1⟩ := f1.lift l (Int.min_le_left _ _)
    obtain ⟨s2, t2⟩ := f2.lift l (Int.min_le_right _ _)
    refine bnP (P := fun o => o = _) s1 (bnP (P := fun o => o = _) s2 ?_)
    refine congrArg some ?_
    show sg _ = _
    rw [vl_low t1, vl_low t2, ← Int.sub_mul, sg_mul (pw_pos _)]
  · refine ifT (P := fun o => o = _) (by rw [decide_eq_false hp]; rfl) (bnP (P := fun o => o = _) (place_eq a e) (bnP (P := fun o => o = _) (place_eq b e') ?_))
    rcases Int.lt_or_gt_of_ne hp with hq | hq
    · refine ifF (P := fun o => o = _) (decide_eq_false (Int.not_lt.mpr (Int.le_of_lt hq))) ?_
      rw [sg_sub_neg (vl_lt hb f2.lo f1.lo hq)]
    · refine ifT (P := fun o => o = _) (decide_eq_true hq) ?_
      rw [sg_sub_pos (vl_lt ha f1.lo f2.lo hq)]
theorem sg_cmp {x y : Int} (h : sg x ≠ sg y) : sg (x - y) = if decide (sg y < sg x) = true then 1 else -1 := by
  rcases sg_or x with ⟨h1, q1⟩ | ⟨h1, q1⟩ | ⟨h1, q1⟩ <;> rcases sg_or y with ⟨h2, q2⟩ | ⟨h2, q2⟩ | ⟨h2, q2⟩ <;> rw [q1, q2] at h ⊢ <;>
    first | exact absurd rfl h | exact sg_sub_pos (Int.lt_trans h2 h1) | exact sg_sub_neg (Int.lt_trans h1 h2) | exact sg_sub_pos (h2 ▸ h1) | exact sg_sub_neg (h1 ▸ h2) | exact sg_sub_pos (h1 ▸ h2) | exact sg_sub_neg (h2 ▸ h1)
theorem abs_of {m : Int} {s : Int} (hs : sg m = s) (h0 : s ≠ 0) : 1 ≤ m.natAbs ∧ m = s * (m.natAbs : Int) := by
  subst hs
  rcases sg_or m with ⟨h, q⟩ | ⟨h, q⟩ | ⟨h, q⟩ <;> rw [q] at h0 ⊢
  · omega
  · exact absurd rfl h0
  · omega
theorem sg_z {m : Int} (h : sg m = 0) : m = 0 := by
  rcases sg_or m with ⟨_, q⟩ | ⟨q, _⟩ | ⟨_, q⟩ <;> first | exact q | (rw [q] at h; cases h)
theorem vl_mul (s m e : Int) : vl (s * m) e = s * vl m e := by unfold vl; rw [Int.mul_assoc]
theorem Fi.abs {m e : Int} (f : Fi m e) : Fi (m.natAbs : Int) e := ⟨by have := f.sm; unfold Sm at this ⊢; rwa [Int.natAbs_natCast], f.lo, f.hi⟩
theorem cmp_eq {m e m' e' : Int} (f1 : Fi m e) (f2 : Fi m' e') : p_compare_reals m e m' e' = some (sg (vl m e - vl m' e')) := by
  refine bnP (P := fun o => o = _) (sign_of_eq m e) (bnP (P := fun o => o = _) (sign_of_eq m' e') ?_)
  by_cases hs : sg m = sg m'
  · refine ifF (P := fun o => o = _) (by rw [decide_eq_true hs]; rfl) (bnP (P := fun o => o = _) (sign_of_eq m e) ?_)
    by_cases h0 : sg m = 0
    · refine ifT (P := fun o => o = _) (decide_eq_true h0) ?_
      rw [sg_z h0, sg_z (hs.symm.trans h0)]
      unfold vl
      rw [Int.zero_mul, Int.zero_mul]; rfl
    · refine ifF (P := fun o => o = _) (decide_eq_false h0) (bnP (P := fun o => o = _) (sign_of_eq m e) ?_)
      obtain ⟨a1, b1⟩ := abs_of rfl h0
      obtain ⟨a2, b2⟩ := abs_of hs.symm h0
      refine bnP (P := fun o => o = _) (x := ((m.natAbs : Int), e)) rfl (bnP (P := fun o => o = _) (x := ((m'.natAbs : Int), e')) rfl (bnP (P := fun o => o = _) (mag_eq a1 a2 f1.abs f2.abs) (bnP (P := fun o => o = _) (gmul_of (sm_sg m) (sm_sg _)) ?_)))
      refine congrArg some ?_
      have e1 : vl m e - vl m' e' = sg m * (vl (m.natAbs : Int) e - vl (m'.natAbs : Int) e') := by rw [Int.mul_sub, ← vl_mul, ← vl_mul, ← b1, ← b2]
      rw [e1]
      rcases sg_or m with ⟨_, q⟩ | ⟨_, q⟩ | ⟨_, q⟩ <;> rw [q]
      · rw [Int.one_mul, Int.one_mul]
      · exact absurd q h0
      · rw [Int.neg_mul, Int.neg_mul, Int.one_mul, Int.one_mul, sg_negate]
  · refine ifT (P := fun o => o = _) (by rw [decide_eq_false hs]; rfl) (bnP (P := fun o => o = _) (sign_of_eq m e) (bnP (P := fun o => o = _) (sign_of_eq m' e') ?_))
    rw [sg_cmp (by rw [sg_vl, sg_vl]; exact hs), sg_vl, sg_vl]
    split <;> rfl
theorem most_eq {m e m' e' : Int} (f1 : Fi m e) (f2 : Fi m' e') : p_law_is_at_most m e m' e' = some (decide (vl m e ≤ vl m' e')) := by
  unfold p_law_is_at_most
  rw [cmp_eq f1 f2, Option.bind_some]
  refine congrArg some ?_
  rcases sg_or (vl m e - vl m' e') with ⟨h, q⟩ | ⟨h, q⟩ | ⟨h, q⟩ <;> rw [q]
  · rw [decide_eq_false (by omega), decide_eq_false (by omega)]
  · rw [decide_eq_true (by omega), decide_eq_true (by omega)]
  · rw [decide_eq_true (by omega), decide_eq_true (by omega)]
theorem most_tt {m e m' e' : Int} (f1 : Fi m e) (f2 : Fi m' e') (h : vl m e ≤ vl m' e') : p_law_is_at_most m e m' e' = some true := by rw [most_eq f1 f2, decide_eq_true h]
theorem row_ok {m e m' e' x y : Int} (f1 : Fi m e) (f2 : Fi m' e') (h1 : x < y → vl m e ≤ vl m' e') (h2 : y < x → vl m' e' ≤ vl m e) (h3 : x = y → m = m' ∧ e = e') : RowOk m e m' e' (sg (x - y)) := by
  refine ⟨_, _, cmp_eq f1 f2, gmul_of (sm_sg _) (sm_sg _), ?_, fun hd => ?_⟩
  · refine decide_eq_false ?_
    rcases sg_or (x - y) with ⟨h, q⟩ | ⟨h, q⟩ | ⟨h, q⟩ <;> rw [q]
    · have := h2 (by omega)
      rcases sg_or (vl m e - vl m' e') with ⟨h', q'⟩ | ⟨h', q'⟩ | ⟨h', q'⟩ <;> rw [q'] <;> omega
    · omega
    · have := h1 (by omega)
      rcases sg_or (vl m e - vl m' e') with ⟨h', q'⟩ | ⟨h', q'⟩ | ⟨h', q'⟩ <;> rw [q'] <;> omega
  · have hd := of_decide_eq_true hd
    have : x = y := by rcases sg_or (x - y) with ⟨h, q⟩ | ⟨h, q⟩ | ⟨h, q⟩ <;> omega
    obtain ⟨rfl, rfl⟩ := h3 this
    rw [same_eq]; simp
noncomputable def nvl (m e : Nat) (K : Nat → Bool) : Bool := nadd e (nlit 128) fun s => nshl m s K
theorem nvl_s {m e : Nat} {K : Nat → Bool} (h : nvl m e K = true) : ∃ v, vl (dec m) (dec e) = dec v ∧ Fi (dec m) (dec e) ∧ K v = true := by
  obtain ⟨s, e1, h⟩ := nadd_s rfl (dec_lit 128) h
  obtain ⟨h1, h2⟩ := ckb h
  obtain ⟨h2, h3⟩ := ckb h2
  obtain ⟨h3, _⟩ := ckb h3
  obtain ⟨v, e2, h⟩ := nshl_s rfl rfl h
  simp only [Nat.add_eq] at h2
  have es : dec s = ((s - OF : Nat) : Int) := dec_pos h1
  rw [big_eq] at h3
  have lo : -128 ≤ dec e := by omega
  have hi : dec e ≤ 872 := by omega
  refine ⟨v, ?_, ⟨sm_dec h3, lo, hi⟩, h⟩
  rw [gshl_of (sm_dec h3) (by omega) (by omega)] at e2
  unfold vl
  rw [show (dec e + 128).toNat = (dec s).toNat by rw [show (128 : Int) = ((128 : Nat) : Int) from rfl, e1], pow_cast]
  exact Option.some.inj e2
theorem dec_le {a b : Nat} (h : a ≤ b) : dec a ≤ dec b := by unfold dec; omega
end Mine
end
section
namespace Mine
noncomputable def nsl (c : Bool) (x y : Nat) : Nat := @Bool.rec (fun _ => Nat) y x c
noncomputable def v1 : Nat := OF + 340282366920938463463374607431768211456
noncomputable def vm1 : Nat := OF - 340282366920938463463374607431768211456
theorem v1_eq : dec v1 = vl 1 0 := by unfold dec v1 vl; rw [show ((0 : Int) + 128).toNat = 128 from rfl, show (2 : Nat) ^ 128 = 340282366920938463463374607431768211456 from by decide +kernel]; omega
theorem vm1_eq : dec vm1 = -vl 1 0 := by
  rw [← v1_eq]
  have : 340282366920938463463374607431768211456 ≤ OF := by decide
  unfold dec v1 vm1; omega
theorem fi10 : Fi 1 0 := ⟨by unfold Sm; exact Nat.one_lt_two_pow (by decide), by decide, by decide⟩
theorem dec_zero : dec OF = 0 := by unfold dec; omega
theorem dec_opp {s t : Nat} (h : Nat.add t s = Nat.add OF OF) : dec t = -dec s := by simp only [Nat.add_eq] at h; unfold dec; omega
theorem dec_gt {a : Nat} (h : Nat.add OF 1 ≤ a) : 0 < dec a := by simp only [Nat.add_eq] at h; unfold dec; omega
noncomputable def PEx (b : Nat) (m e ve : Int) : Prop := ∃ a c, p_exp_real b m e = some (a, c) ∧ Fi a c ∧ 0 < a ∧ vl a c = ve ∧ (∃ d f, p_add_reals b m e 1 0 = some (d, f) ∧ Fi d f ∧ vl d f ≤ ve) ∧ vl 1 0 ≤ ve
noncomputable def PEn (b : Nat) (m e ve : Int) : Prop := ∃ a c, p_exp_real b m e = some (a, c) ∧ Fi a c ∧ 0 < a ∧ vl a c = ve ∧ (∃ d f, p_add_reals b m e 1 0 = some (d, f) ∧ Fi d f ∧ vl d f ≤ ve) ∧ ve ≤ vl 1 0
noncomputable def PLg (b : Nat) (m e vL : Int) : Prop := ∃ a c, p_log_real b m e = some (a, c) ∧ Fi a c ∧ vl a c = vL ∧ ∃ d f, p_subtract_reals b m e 1 0 = some (d, f) ∧ Fi d f ∧ vL ≤ vl d f
noncomputable def PSn (b : Nat) (m e vx : Int) : Prop := ∃ a c, p_sin_real b m e = some (a, c) ∧ p_sin_real b (-m) e = some (-a, c) ∧ Fi a c ∧ -vl 1 0 ≤ vl a c ∧ vl a c ≤ vl 1 0 ∧ vl a c ≤ vx
noncomputable def PCs (b : Nat) (m e : Int) : Prop := ∃ a c, p_cos_real b m e = some (a, c) ∧ p_cos_real b (-m) e = some (a, c) ∧ Fi a c ∧ -vl 1 0 ≤ vl a c ∧ vl a c ≤ vl 1 0
noncomputable def PTn (b : Nat) (m e : Int) : Prop := ∃ a c, p_tan_real b m e = some (a, c) ∧ p_tan_real b (-m) e = some (-a, c)
noncomputable def PAt (b : Nat) (m e vx va : Int) : Prop := ∃ a c, p_atan_real b m e = some (a, c) ∧ p_atan_real b (-m) e = some (-a, c) ∧ Fi a c ∧ vl a c = va ∧ 0 ≤ va ∧ va ≤ vx
structure XFact (b : Nat) (m e vx ve ve' va vL : Int) : Prop where
  pos : 0 < m
  fx : Fi m e
  hvx : vl m e = vx
  odd : m.toNat % 2 = 1
  le : m.toNat ≤ 2 ^ b
  elo : 1 - (b : Int) ≤ e
  top : m.toNat * 2 ^ (e + 40).toNat ≤ 2 ^ 44
  ex : PEx b m e ve
  ex' : PEn b (-m) e ve'
  lg : PLg b m e vL
  sn : PSn b m e vx
  cs : PCs b m e
  tn : PTn b m e
  at' : PAt b m e vx va
section
variable {b m m' e : Nat} {P : Prop}
noncomputable def xA (b m e pe : Nat) (K : Nat → Bool) : Bool := n_exp_real (nlit b) m e fun a1 a2 => ck (Nat.ble (Nat.add OF 1) a1) (nvl a1 a2 fun va => ck (Nat.ble pe va) (n_add_reals (nlit b) m e (nlit 1) OF fun d1 d2 => nvl d1 d2 fun vd => ck (Nat.ble vd va) (ck (Nat.ble v1 va) (K va))))
theorem xA_s {pe : Nat} {K : Nat → Bool} (h : xA b m e pe K = true) (q : ∀ va, PEx b (dec m) (dec e) (dec va) → pe ≤ va → K va = true → P) : P := by
  obtain ⟨_, r1, a1, a2, rfl, h⟩ := n_exp_real_s (dec_lit b) rfl rfl h
  obtain ⟨qa, h⟩ := ckb h
  obtain ⟨va, w1, f1, h⟩ := nvl_s h
  obtain ⟨q1, h⟩ := ckb h
  obtain ⟨_, r2, d1, d2, rfl, h⟩ := n_add_reals_s (dec_lit b) rfl rfl (dec_lit 1) dec_zero h
  obtain ⟨vd, w2, f2, h⟩ := nvl_s h
  obtain ⟨q2, h⟩ := ckb h
  obtain ⟨q3, h⟩ := ckb h
  exact q va ⟨_, _, r1, f1, dec_gt qa, w1, ⟨_, _, r2, f2, w2 ▸ dec_le q2⟩, v1_eq ▸ dec_le q3⟩ q1 h
noncomputable def xB (b m e pe : Nat) (K : Nat → Bool) : Bool := n_exp_real (nlit b) m e fun a1 a2 => ck (Nat.ble (Nat.add OF 1) a1) (nvl a1 a2 fun va => ck (Nat.ble va pe) (n_add_reals (nlit b) m e (nlit 1) OF fun d1 d2 => nvl d1 d2 fun vd => ck (Nat.ble vd va) (ck (Nat.ble va v1) (K va))))
theorem xB_s {pe : Nat} {x : Int} {K : Nat → Bool} (hx : dec m = x) (h : xB b m e pe K = true) (q : ∀ va, PEn b x (dec e) (dec va) → va ≤ pe → K va = true → P) : P := by
  obtain ⟨_, r1, a1, a2, rfl, h⟩ := n_exp_real_s (dec_lit b) hx rfl h
  obtain ⟨qa, h⟩ := ckb h
  obtain ⟨va, w1, f1, h⟩ := nvl_s h
  obtain ⟨q1, h⟩ := ckb h
  obtain ⟨_, r2, d1, d2, rfl, h⟩ := n_add_reals_s (dec_lit b) hx rfl (dec_lit 1) dec_zero h
  obtain ⟨vd, w2, f2, h⟩ := nvl_s h
  obtain ⟨q2, h⟩ := ckb h
  obtain ⟨q3, h⟩ := ckb h
  exact q va ⟨_, _, r1, f1, dec_gt qa, w1, ⟨_, _, r2, f2, w2 ▸ dec_le q2⟩, v1_eq ▸ dec_le q3⟩ q1 h
noncomputable def xL (b m e pl : Nat) (K : Nat → Bool) : Bool := n_log_real (nlit b) m e fun l1 l2 => nvl l1 l2 fun vL => ck (Nat.ble pl vL) (n_subtract_reals (nlit b) m e (nlit 1) OF fun k1 k2 => nvl k1 k2 fun vk => ck (Nat.ble vL vk) (K vL))
theorem xL_s {pl : Nat} {K : Nat → Bool} (h : xL b m e pl K = true) (q : ∀ v, PLg b (dec m) (dec e) (dec v) → pl ≤ v → K v = true → P) : P := by
  obtain ⟨_, r1, a1, a2, rfl, h⟩ := n_log_real_s (dec_lit b) rfl rfl h
  obtain ⟨v, w1, f1, h⟩ := nvl_s h
  obtain ⟨q1, h⟩ := ckb h
  obtain ⟨_, r2, d1, d2, rfl, h⟩ := n_subtract_reals_s (dec_lit b) rfl rfl (dec_lit 1) dec_zero h
  obtain ⟨vd, w2, f2, h⟩ := nvl_s h
  obtain ⟨q2, h⟩ := ckb h
  exact q v ⟨_, _, r1, f1, w1, _, _, r2, f2, w2 ▸ dec_le q2⟩ q1 h
noncomputable def xS (b m m' e vx : Nat) (K : Bool) : Bool := n_sin_real (nlit b) m e fun s1 s2 => nvl s1 s2 fun vs => ck (Nat.ble vm1 vs) (ck (Nat.ble vs v1) (ck (Nat.ble vs vx) (n_sin_real (nlit b) m' e fun t1 t2 => ck (Nat.beq (Nat.add t1 s1) (Nat.add OF OF)) (ck (Nat.beq t2 s2) K))))
theorem xS_s {vx : Nat} {K : Bool} (hm : dec m' = -dec m) (h : xS b m m' e vx K = true) (q : PSn b (dec m) (dec e) (dec vx) → K = true → P) : P := by
  obtain ⟨_, r1, a1, a2, rfl, h⟩ := n_sin_real_s (dec_lit b) rfl rfl h
  obtain ⟨v, w1, f1, h⟩ := nvl_s h
  obtain ⟨q1, h⟩ := ckb h
  obtain ⟨q2, h⟩ := ckb h
  obtain ⟨q3, h⟩ := ckb h
  obtain ⟨_, r2, t1, t2, rfl, h⟩ := n_sin_real_s (dec_lit b) hm rfl h
  obtain ⟨q4, h⟩ := ckq h
  obtain ⟨q5, h⟩ := ckq h
  rw [dec_opp q4, q5] at r2
  exact q ⟨_, _, r1, r2, f1, w1 ▸ vm1_eq ▸ dec_le q1, w1 ▸ v1_eq ▸ dec_le q2, w1 ▸ dec_le q3⟩ h
noncomputable def xC (b m m' e : Nat) (K : Bool) : Bool := n_cos_real (nlit b) m e fun s1 s2 => nvl s1 s2 fun vs => ck (Nat.ble vm1 vs) (ck (Nat.ble vs v1) (n_cos_real (nlit b) m' e fun t1 t2 => ck (Nat.beq t1 s1) (ck (Nat.beq t2 s2) K)))
theorem xC_s {K : Bool} (hm : dec m' = -dec m) (h : xC b m m' e K = true) (q : PCs b (dec m) (dec e) → K = true → P) : P := by
  obtain ⟨_, r1, a1, a2, rfl, h⟩ := n_cos_real_s (dec_lit b) rfl rfl h
  obtain ⟨v, w1, f1, h⟩ := nvl_s h
  obtain ⟨q1, h⟩ := ckb h
  obtain ⟨q2, h⟩ := ckb h
  obtain ⟨_, r2, t1, t2, rfl, h⟩ := n_cos_real_s (dec_lit b) hm rfl h
  obtain ⟨q4, h⟩ := ckq h
  obtain ⟨q5, h⟩ := ckq h
  rw [q4, q5] at r2
  exact q ⟨_, _, r1, r2, f1, w1 ▸ vm1_eq ▸ dec_le q1, w1 ▸ v1_eq ▸ dec_le q2⟩ h
noncomputable def xT (b m m' e : Nat) (K : Bool) : Bool := n_tan_real (nlit b) m e fun s1 s2 => n_tan_real (nlit b) m' e fun t1 t2 => ck (Nat.beq (Nat.add t1 s1) (Nat.add OF OF)) (ck (Nat.beq t2 s2) K)
theorem xT_s {K : Bool} (hm : dec m' = -dec m) (h : xT b m m' e K = true) (q : PTn b (dec m) (dec e) → K = true → P) : P := by
  obtain ⟨_, r1, a1, a2, rfl, h⟩ := n_tan_real_s (dec_lit b) rfl rfl h
  obtain ⟨_, r2, t1, t2, rfl, h⟩ := n_tan_real_s (dec_lit b) hm rfl h
  obtain ⟨q4, h⟩ := ckq h
  obtain ⟨q5, h⟩ := ckq h
  rw [dec_opp q4, q5] at r2
  exact q ⟨_, _, r1, r2⟩ h
noncomputable def xO (b m m' e vx pa : Nat) (K : Nat → Bool) : Bool := n_atan_real (nlit b) m e fun o1 o2 => nvl o1 o2 fun vo => ck (Nat.ble pa vo) (ck (Nat.ble OF vo) (ck (Nat.ble vo vx) (n_atan_real (nlit b) m' e fun x1 x2 => ck (Nat.beq (Nat.add x1 o1) (Nat.add OF OF)) (ck (Nat.beq x2 o2) (K vo)))))
theorem xO_s {vx pa : Nat} {K : Nat → Bool} (hm : dec m' = -dec m) (h : xO b m m' e vx pa K = true) (q : ∀ v, PAt b (dec m) (dec e) (dec vx) (dec v) → pa ≤ v → K v = true → P) : P := by
  obtain ⟨_, r1, a1, a2, rfl, h⟩ := n_atan_real_s (dec_lit b) rfl rfl h
  obtain ⟨v, w1, f1, h⟩ := nvl_s h
  obtain ⟨q1, h⟩ := ckb h
  obtain ⟨q2, h⟩ := ckb h
  obtain ⟨q3, h⟩ := ckb h
  obtain ⟨_, r2, t1, t2, rfl, h⟩ := n_atan_real_s (dec_lit b) hm rfl h
  obtain ⟨q4, h⟩ := ckq h
  obtain ⟨q5, h⟩ := ckq h
  rw [dec_opp q4, q5] at r2
  exact q v ⟨_, _, r1, r2, f1, w1, dec_zero ▸ dec_le q2, dec_le q3⟩ q1 h
end
noncomputable def ckx (b m m' e px pe pe' pa pl : Nat) (K : Nat → Nat → Nat → Nat → Nat → Bool) : Bool :=
ck (Nat.ble (Nat.add OF 1) m) (ck (Nat.beq (Nat.add m' m) (Nat.add OF OF)) (nvl m e fun vx =>
ck (Nat.beq (Nat.mod (Nat.sub m OF) 2) 1) (ck (Nat.ble (Nat.sub m OF) (Nat.pow 2 b)) (ck (Nat.ble (Nat.add OF 1) (Nat.add e b)) (
ck (Nat.ble (Nat.mul (Nat.sub m OF) (Nat.pow 2 (Nat.sub (Nat.add e 40) OF))) (Nat.pow 2 44)) (ck (Nat.ble (Nat.add px 1) vx) (
xA b m e pe fun va => xB b m' e pe' fun vb => xL b m e pl fun vL => xS b m m' e vx (xC b m m' e (xT b m m' e (xO b m m' e vx pa fun vo => K vx va vb vo vL))))))))))
theorem ckx_s {b m m' e px pe pe' pa pl : Nat} {K : Nat → Nat → Nat → Nat → Nat → Bool} (h : ckx b m m' e px pe pe' pa pl K = true) {P : Prop}
    (q : ∀ vx ve ve' va vL : Nat, XFact b (dec m) (dec e) (dec vx) (dec ve) (dec ve') (dec va) (dec vL) → px < vx → pe ≤ ve → ve' ≤ pe' → pa ≤ va → pl ≤ vL → K vx ve ve' va vL = true → P) : P := by
  obtain ⟨q0, h⟩ := ckb (show ck (Nat.ble (Nat.add OF 1) m) _ = true from h)
  obtain ⟨q1, h⟩ := ckq h
  obtain ⟨vx, wx, fx, h⟩ := nvl_s h
  obtain ⟨q22, h⟩ := ckq h
  obtain ⟨q23, h⟩ := ckb h
  obtain ⟨q24, h⟩ := ckb h
  obtain ⟨q25, h⟩ := ckb h
  obtain ⟨q2, h⟩ := ckb h
  have hm := dec_opp q1
  have em : (dec m).toNat = m - OF := by unfold dec; omega
  have ee : (dec e + 40).toNat = e + 40 - OF := by unfold dec; omega
  refine xA_s h fun va f1 g1 h => xB_s hm h fun vb f2 g2 h => xL_s h fun vL f3 g3 h => xS_s hm h fun f4 h => xC_s hm h fun f5 h => xT_s hm h fun f6 h => xO_s hm h fun vo f7 g7 h => q vx va vb vo vL ⟨dec_gt q0, fx, wx, em ▸ q22, em ▸ q23, ?_, by rw [em, ee]; exact q25, f1, f2, f3, f4, f5, f6, f7⟩ q2 g1 g2 g7 g3 h
  simp only [Nat.add_eq] at q24; unfold dec; omega
end Mine
end
section
namespace Mine
noncomputable def jf (b t : Nat) : Nat :=
  (fun P => nsl (Nat.ble t P) t (nsl (Nat.ble t (Nat.add P (Nat.div P 2))) (Nat.add P (Nat.mul 2 (Nat.sub t P))) (nsl (Nat.ble t (Nat.mul 2 P)) (Nat.add (Nat.mul 2 P) (Nat.mul 4 (Nat.sub t (Nat.add P (Nat.div P 2))))) (Nat.add (Nat.mul 4 P) (Nat.mul 8 (Nat.sub t (Nat.mul 2 P))))))) (Nat.pow 2 b)
structure C5 where
  x : Nat
  e : Nat
  e' : Nat
  a : Nat
  l : Nat
noncomputable def XS (b t : Nat) (r : C5) : Prop := ∃ m e, p_lean ((jf b t : Nat) : Int) (1 - (b : Int)) = some (m, e) ∧ XFact b m e (dec r.x) (dec r.e) (dec r.e') (dec r.a) (dec r.l)
noncomputable def Up5 (p r : C5) : Prop := p.x < r.x ∧ p.e ≤ r.e ∧ r.e' ≤ p.e' ∧ p.a ≤ r.a ∧ p.l ≤ r.l
noncomputable def Chain (b : Nat) : Nat → Nat → C5 → C5 → Prop
  | 0, _, p, q => p = q
  | n + 1, t, p, q => ∃ r, XS b t r ∧ Up5 p r ∧ Chain b n (t + 1) r q
theorem Chain.app {b : Nat} : ∀ {n n' t : Nat} {p q r : C5}, Chain b n t p q → Chain b n' (t + n) q r → Chain b (n + n') t p r
  | 0, n', t, p, q, r, h, h' => by
    have h : p = q := h
    subst h
    rw [Nat.zero_add]; exact h'
  | n + 1, n', t, p, q, r, h, h' => by
    obtain ⟨u, h1, h2, h3⟩ := h
    rw [show n + 1 + n' = (n + n') + 1 by omega]
    exact ⟨u, h1, h2, Chain.app h3 (by rw [show t + 1 + n = t + (n + 1) by omega]; exact h')⟩
theorem Chain.seq {b : Nat} : ∀ {n t : Nat} {p q : C5}, Chain b n t p q → ∃ f : Nat → C5, f 0 = p ∧ ∀ i, i < n → XS b (t + i) (f (i + 1)) ∧ Up5 (f i) (f (i + 1))
  | 0, t, p, q, _ => ⟨fun _ => p, rfl, fun i hi => absurd hi (Nat.not_lt_zero _)⟩
  | n + 1, t, p, q, h => by
    obtain ⟨r, h1, h2, h3⟩ := h
    obtain ⟨f, h4, h5⟩ := Chain.seq h3
    refine ⟨fun i => match i with | 0 => p | i + 1 => f i, rfl, fun i hi => ?_⟩
    rcases i with _ | i
    · show XS b (t + 0) (f 0) ∧ Up5 p (f 0)
      rw [h4]; exact ⟨h1, h2⟩
    · have := h5 i (by omega)
      rw [show t + (i + 1) = t + 1 + i by omega]; exact this
noncomputable def runX (b : Nat) (K : Nat → Nat → Nat → Nat → Nat → Bool) (n : Nat) : Nat → Nat → Nat → Nat → Nat → Nat → Bool :=
  @Nat.rec (fun _ => Nat → Nat → Nat → Nat → Nat → Nat → Bool) (fun _ px pe pe' pa pl => K px pe pe' pa pl)
    (fun _ ih t px pe pe' pa pl => n_lean (nlit (jf b t)) (nng (Nat.sub b 1)) fun m e => ckx b m (Nat.sub (Nat.add OF OF) m) e px pe pe' pa pl fun vx ve ve' va vL => ih (Nat.add t 1) vx ve ve' va vL) n
theorem runX_s {b : Nat} (hb : 1 ≤ b) (hb2 : b ≤ 1000) {K : Nat → Nat → Nat → Nat → Nat → Bool} : ∀ (n t px pe pe' pa pl : Nat), runX b K n t px pe pe' pa pl = true → ∃ q : C5, Chain b n t ⟨px, pe, pe', pa, pl⟩ q ∧ K q.x q.e q.e' q.a q.l = true
  | 0, t, px, pe, pe', pa, pl, h => ⟨_, rfl, h⟩
  | n + 1, t, px, pe, pe', pa, pl, h => by
    obtain ⟨_, h1, m, e, rfl, h⟩ := n_lean_s (dec_lit (jf b t)) (dec_ng (b - 1) (by have := OF_big; omega)) (show n_lean (nlit (jf b t)) (nng (Nat.sub b 1)) _ = true from h)
    refine ckx_s h fun vx ve ve' va vL f q1 q2 q3 q4 q5 h => ?_
    obtain ⟨q, h3, h⟩ := runX_s hb hb2 n (t + 1) vx ve ve' va vL h
    rw [show -((b - 1 : Nat) : Int) = 1 - (b : Int) by omega] at h1
    exact ⟨q, ⟨⟨vx, ve, ve', va, vL⟩, ⟨_, _, h1, f⟩, ⟨q1, q2, q3, q4, q5⟩, h3⟩, h⟩
noncomputable def fin5 (a b c d e : Nat) (x y z u v : Nat) : Bool := ck (Nat.beq x a) (ck (Nat.beq y b) (ck (Nat.beq z c) (ck (Nat.beq u d) (Nat.beq v e))))
theorem chunk_x {b : Nat} (hb : 1 ≤ b) (hb2 : b ≤ 1000) {n t px pe pe' pa pl qx qe qe' qa ql : Nat} (h : runX b (fin5 qx qe qe' qa ql) n t px pe pe' pa pl = true) : Chain b n t ⟨px, pe, pe', pa, pl⟩ ⟨qx, qe, qe', qa, ql⟩ := by
  obtain ⟨⟨x, y, z, u, v⟩, h1, h⟩ := runX_s hb hb2 _ _ _ _ _ _ _ h
  obtain ⟨e1, h⟩ := ckq h
  obtain ⟨e2, h⟩ := ckq h
  obtain ⟨e3, h⟩ := ckq h
  obtain ⟨e4, h⟩ := ckq h
  have e5 := Nat.eq_of_beq_eq_true h
  dsimp only at e1 e2 e3 e4 e5
  subst e1 e2 e3 e4 e5
  exact h1
noncomputable def PAs (b : Nat) (m e vs va : Int) : Prop := ∃ a c, p_asin_real b m e = some (a, c) ∧ p_asin_real b (-m) e = some (-a, c) ∧ Fi a c ∧ vl a c = va ∧ vs ≤ va
noncomputable def PAc (b : Nat) (m e vc : Int) : Prop := ∃ a c, p_acos_real b m e = some (a, c) ∧ Fi a c ∧ vl a c = vc
noncomputable def PTs (b : Nat) (m e vs : Int) : Prop := ∃ a c, p_tan_real b m e = some (a, c) ∧ p_tan_real b (-m) e = some (-a, c) ∧ Fi a c ∧ vs ≤ vl a c
structure SFact (b : Nat) (m e vs va vc vc' : Int) : Prop where
  pos : 0 < m
  fx : Fi m e
  hvs : vl m e = vs
  as : PAs b m e vs va
  ac : PAc b m e vc
  ac' : PAc b (-m) e vc'
  tn : PTs b m e vs
section
variable {b m m' e : Nat} {P : Prop}
noncomputable def yA (b m m' e vs pa : Nat) (K : Nat → Bool) : Bool := n_asin_real (nlit b) m e fun a1 a2 => nvl a1 a2 fun va => ck (Nat.ble pa va) (ck (Nat.ble vs va) (n_asin_real (nlit b) m' e fun b1 b2 => ck (Nat.beq (Nat.add b1 a1) (Nat.add OF OF)) (ck (Nat.beq b2 a2) (K va))))
theorem yA_s {vs pa : Nat} {K : Nat → Bool} (hm : dec m' = -dec m) (h : yA b m m' e vs pa K = true) (q : ∀ v, PAs b (dec m) (dec e) (dec vs) (dec v) → pa ≤ v → K v = true → P) : P := by
  obtain ⟨_, r1, a1, a2, rfl, h⟩ := n_asin_real_s (dec_lit b) rfl rfl h
  obtain ⟨v, w1, f1, h⟩ := nvl_s h
  obtain ⟨q1, h⟩ := ckb h
  obtain ⟨q2, h⟩ := ckb h
  obtain ⟨_, r2, t1, t2, rfl, h⟩ := n_asin_real_s (dec_lit b) hm rfl h
  obtain ⟨q4, h⟩ := ckq h
  obtain ⟨q5, h⟩ := ckq h
  rw [dec_opp q4, q5] at r2
  exact q v ⟨_, _, r1, r2, f1, w1, dec_le q2⟩ q1 h
noncomputable def yC (b m e : Nat) (K : Nat → Bool) : Bool := n_acos_real (nlit b) m e fun c1 c2 => nvl c1 c2 K
theorem yC_s {x : Int} {K : Nat → Bool} (hx : dec m = x) (h : yC b m e K = true) (q : ∀ v, PAc b x (dec e) (dec v) → K v = true → P) : P := by
  obtain ⟨_, r1, a1, a2, rfl, h⟩ := n_acos_real_s (dec_lit b) hx rfl h
  obtain ⟨v, w1, f1, h⟩ := nvl_s h
  exact q v ⟨_, _, r1, f1, w1⟩ h
noncomputable def yT (b m m' e vs : Nat) (K : Bool) : Bool := n_tan_real (nlit b) m e fun i1 i2 => nvl i1 i2 fun vi => ck (Nat.ble vs vi) (n_tan_real (nlit b) m' e fun j1 j2 => ck (Nat.beq (Nat.add j1 i1) (Nat.add OF OF)) (ck (Nat.beq j2 i2) K))
theorem yT_s {vs : Nat} {K : Bool} (hm : dec m' = -dec m) (h : yT b m m' e vs K = true) (q : PTs b (dec m) (dec e) (dec vs) → K = true → P) : P := by
  obtain ⟨_, r1, a1, a2, rfl, h⟩ := n_tan_real_s (dec_lit b) rfl rfl h
  obtain ⟨v, w1, f1, h⟩ := nvl_s h
  obtain ⟨q1, h⟩ := ckb h
  obtain ⟨_, r2, t1, t2, rfl, h⟩ := n_tan_real_s (dec_lit b) hm rfl h
  obtain ⟨q4, h⟩ := ckq h
  obtain ⟨q5, h⟩ := ckq h
  rw [dec_opp q4, q5] at r2
  exact q ⟨_, _, r1, r2, f1, w1 ▸ dec_le q1⟩ h
end
noncomputable def cks (b m m' e ps pa pc pc' : Nat) (K : Nat → Nat → Nat → Nat → Bool) : Bool :=
  ck (Nat.ble (Nat.add OF 1) m) (ck (Nat.beq (Nat.add m' m) (Nat.add OF OF)) (nvl m e fun vs => ck (Nat.ble (Nat.add ps 1) vs) (
  yA b m m' e vs pa fun va => yC b m e fun vc => ck (Nat.ble vc pc) (yC b m' e fun vd => ck (Nat.ble pc' vd) (yT b m m' e vs (K vs va vc vd))))))
theorem cks_s {b m m' e ps pa pc pc' : Nat} {K : Nat → Nat → Nat → Nat → Bool} (h : cks b m m' e ps pa pc pc' K = true) {P : Prop}
    (q : ∀ vs va vc vc' : Nat, SFact b (dec m) (dec e) (dec vs) (dec va) (dec vc) (dec vc') → ps < vs → pa ≤ va → vc ≤ pc → pc' ≤ vc' → K vs va vc vc' = true → P) : P := by
  obtain ⟨q0, h⟩ := ckb (show ck (Nat.ble (Nat.add OF 1) m) _ = true from h)
  obtain ⟨q1, h⟩ := ckq h
  have hm := dec_opp q1
  obtain ⟨vs, ws, fs, h⟩ := nvl_s h
  obtain ⟨q2, h⟩ := ckb h
  refine yA_s hm h fun va f1 g1 h => yC_s rfl h fun vc f2 h => ?_
  obtain ⟨q3, h⟩ := ckb h
  refine yC_s hm h fun vd f3 h => ?_
  obtain ⟨q4, h⟩ := ckb h
  exact yT_s hm h fun f4 h => q vs va vc vd ⟨dec_gt q0, fs, ws, f1, f2, f3, f4⟩ q2 g1 q3 q4 h
structure C4 where
  x : Nat
  a : Nat
  c : Nat
  c' : Nat
noncomputable def SS (b t : Nat) (r : C4) : Prop := ∃ m e, p_lean ((t : Nat) : Int) (-(b : Int)) = some (m, e) ∧ SFact b m e (dec r.x) (dec r.a) (dec r.c) (dec r.c')
noncomputable def Up4 (p r : C4) : Prop := p.x < r.x ∧ p.a ≤ r.a ∧ r.c ≤ p.c ∧ p.c' ≤ r.c'
noncomputable def ChainS (b : Nat) : Nat → Nat → C4 → C4 → Prop
  | 0, _, p, q => p = q
  | n + 1, t, p, q => ∃ r, SS b t r ∧ Up4 p r ∧ ChainS b n (t + 1) r q
theorem ChainS.app {b : Nat} : ∀ {n n' t : Nat} {p q r : C4}, ChainS b n t p q → ChainS b n' (t + n) q r → ChainS b (n + n') t p r
  | 0, n', t, p, q, r, h, h' => by
    have h : p = q := h
    subst h
    rw [Nat.zero_add]; exact h'
  | n + 1, n', t, p, q, r, h, h' => by
    obtain ⟨u, h1, h2, h3⟩ := h
    rw [show n + 1 + n' = (n + n') + 1 by omega]
    exact ⟨u, h1, h2, ChainS.app h3 (by rw [show t + 1 + n = t + (n + 1) by omega]; exact h')⟩
theorem ChainS.seq {b : Nat} : ∀ {n t : Nat} {p q : C4}, ChainS b n t p q → ∃ f : Nat → C4, f 0 = p ∧ ∀ i, i < n → SS b (t + i) (f (i + 1)) ∧ Up4 (f i) (f (i + 1))
  | 0, t, p, q, _ => ⟨fun _ => p, rfl, fun i hi => absurd hi (Nat.not_lt_zero _)⟩
  | n + 1, t, p, q, h => by
    obtain ⟨r, h1, h2, h3⟩ := h
    obtain ⟨f, h4, h5⟩ := ChainS.seq h3
    refine ⟨fun i => match i with | 0 => p | i + 1 => f i, rfl, fun i hi => ?_⟩
    rcases i with _ | i
    · show SS b (t + 0) (f 0) ∧ Up4 p (f 0)
      rw [h4]; exact ⟨h1, h2⟩
    · have := h5 i (by omega)
      rw [show t + (i + 1) = t + 1 + i by omega]; exact this
noncomputable def runS (b : Nat) (K : Nat → Nat → Nat → Nat → Bool) (n : Nat) : Nat → Nat → Nat → Nat → Nat → Bool :=
  @Nat.rec (fun _ => Nat → Nat → Nat → Nat → Nat → Bool) (fun _ ps pa pc pc' => K ps pa pc pc')
    (fun _ ih t ps pa pc pc' => n_lean (nlit t) (nng b) fun m e => cks b m (Nat.sub (Nat.add OF OF) m) e ps pa pc pc' fun vs va vc vc' => ih (Nat.add t 1) vs va vc vc') n
theorem runS_s {b : Nat} (hb2 : b ≤ 1000) {K : Nat → Nat → Nat → Nat → Bool} : ∀ (n t ps pa pc pc' : Nat), runS b K n t ps pa pc pc' = true → ∃ q : C4, ChainS b n t ⟨ps, pa, pc, pc'⟩ q ∧ K q.x q.a q.c q.c' = true
  | 0, t, ps, pa, pc, pc', h => ⟨_, rfl, h⟩
  | n + 1, t, ps, pa, pc, pc', h => by
    obtain ⟨_, h1, m, e, rfl, h⟩ := n_lean_s (dec_lit t) (dec_ng b (by have := OF_big; omega)) (show n_lean (nlit t) (nng b) _ = true from h)
    refine cks_s h fun vs va vc vc' f q1 q2 q3 q4 h => ?_
    obtain ⟨q, h3, h⟩ := runS_s hb2 n (t + 1) vs va vc vc' h
    exact ⟨q, ⟨⟨vs, va, vc, vc'⟩, ⟨_, _, h1, f⟩, ⟨q1, q2, q3, q4⟩, h3⟩, h⟩
noncomputable def fin4 (a b c d : Nat) (x y z u : Nat) : Bool := ck (Nat.beq x a) (ck (Nat.beq y b) (ck (Nat.beq z c) (Nat.beq u d)))
theorem chunk_s {b : Nat} (hb2 : b ≤ 1000) {n t ps pa pc pc' qs qa qc qc' : Nat} (h : runS b (fin4 qs qa qc qc') n t ps pa pc pc' = true) : ChainS b n t ⟨ps, pa, pc, pc'⟩ ⟨qs, qa, qc, qc'⟩ := by
  obtain ⟨⟨x, y, z, u⟩, h1, h⟩ := runS_s hb2 _ _ _ _ _ _ h
  obtain ⟨e1, h⟩ := ckq h
  obtain ⟨e2, h⟩ := ckq h
  obtain ⟨e3, h⟩ := ckq h
  have e4 := Nat.eq_of_beq_eq_true h
  dsimp only at e1 e2 e3 e4
  subst e1 e2 e3 e4
  exact h1
structure YFact (b : Nat) (m e : Int) : Prop where
  at' : ∃ a c, p_atan_real b m e = some (a, c) ∧ p_atan_real b (-m) e = some (-a, c) ∧ p_atan_two_real b m e 1 0 = some (a, c) ∧ p_atan_two_real b (-m) e 1 0 = some (-a, c)
  dv : p_divide_reals b m e 1 0 = some (m, e)
  dv' : p_divide_reals b (-m) e 1 0 = some (-m, e)
section
variable {b m e : Nat} {P : Prop}
noncomputable def zD (b m e : Nat) (K : Bool) : Bool := n_divide_reals (nlit b) m e (nlit 1) OF fun g1 g2 => ck (Nat.beq g1 m) (ck (Nat.beq g2 e) K)
theorem zD_s {x : Int} {K : Bool} (hx : dec m = x) (h : zD b m e K = true) : p_divide_reals b x (dec e) 1 0 = some (x, dec e) ∧ K = true := by
  obtain ⟨_, r, g1, g2, rfl, h⟩ := n_divide_reals_s (dec_lit b) hx rfl (dec_lit 1) dec_zero h
  obtain ⟨q1, h⟩ := ckq h
  obtain ⟨q2, h⟩ := ckq h
  rw [q1, q2, hx] at r
  exact ⟨r, h⟩
noncomputable def zA (b m e a c : Nat) (K : Bool) : Bool := n_atan_two_real (nlit b) m e (nlit 1) OF fun g1 g2 => ck (Nat.beq g1 a) (ck (Nat.beq g2 c) K)
theorem zA_s {x : Int} {a c : Nat} {K : Bool} (hx : dec m = x) (h : zA b m e a c K = true) : p_atan_two_real b x (dec e) 1 0 = some (dec a, dec c) ∧ K = true := by
  obtain ⟨_, r, g1, g2, rfl, h⟩ := n_atan_two_real_s (dec_lit b) hx rfl (dec_lit 1) dec_zero h
  obtain ⟨q1, h⟩ := ckq h
  obtain ⟨q2, h⟩ := ckq h
  rw [q1, q2] at r
  exact ⟨r, h⟩
end
noncomputable def cky (b m m' e : Nat) (K : Bool) : Bool :=
  n_atan_real (nlit b) m e fun a1 a2 => n_atan_real (nlit b) m' e fun b1 b2 => ck (Nat.beq (Nat.add b1 a1) (Nat.add OF OF)) (ck (Nat.beq b2 a2) (zA b m e a1 a2 (zA b m' e b1 a2 (zD b m e (zD b m' e K)))))
theorem cky_s {b m m' e : Nat} {K : Bool} (hm : dec m' = -dec m) (h : cky b m m' e K = true) : YFact b (dec m) (dec e) ∧ K = true := by
  obtain ⟨_, r1, a1, a2, rfl, h⟩ := n_atan_real_s (dec_lit b) rfl rfl h
  obtain ⟨_, r2, b1, b2, rfl, h⟩ := n_atan_real_s (dec_lit b) hm rfl h
  obtain ⟨q1, h⟩ := ckq h
  obtain ⟨q2, h⟩ := ckq h
  obtain ⟨r3, h⟩ := zA_s rfl h
  obtain ⟨r4, h⟩ := zA_s hm h
  obtain ⟨r5, h⟩ := zD_s rfl h
  obtain ⟨r6, h⟩ := zD_s hm h
  rw [dec_opp q1] at r2 r4
  rw [q2] at r2
  exact ⟨⟨⟨_, _, r1, r2, r3, r4⟩, r5, r6⟩, h⟩
noncomputable def runE (b m : Nat) (n : Nat) : Nat → Bool :=
  @Nat.rec (fun _ => Nat → Bool) (fun _ => false)
    (fun _ ih e => sel (Nat.ble (Nat.mul m (Nat.pow 2 (Nat.sub (Nat.add e 40) OF))) (Nat.pow 2 47)) (cky b (nlit m) (nng m) e (ih (Nat.add e 1))) true) n
theorem runE_s {b m : Nat} (hm : m ≤ OF) (hm1 : 1 ≤ m) (n : Nat) : ∀ (e : Nat), runE b m n e = true → ∀ i : Nat, m * 2 ^ (e + i + 40 - OF) ≤ 2 ^ 47 → OF ≤ e + 40 → YFact b (m : Int) (dec (e + i)) := by
  induction n with
  | zero => intro e h; exact absurd h Bool.false_ne_true
  | succ n ih =>
    intro e h i hi ho
    rcases selb (show sel (Nat.ble (Nat.mul m (Nat.pow 2 (Nat.sub (Nat.add e 40) OF))) (Nat.pow 2 47)) (cky b (nlit m) (nng m) e (runE b m n (Nat.add e 1))) true = true from h) with ⟨h1, h⟩ | ⟨h1, _⟩
    · obtain ⟨f, h⟩ := cky_s (by rw [dec_ng m hm, dec_lit]) h
      rw [dec_lit] at f
      cases i with
      | zero => exact f
      | succ i =>
        have := ih (e + 1) h i (by rw [show e + 1 + i + 40 = e + (i + 1) + 40 by omega]; exact hi) (by omega)
        rw [show e + 1 + i = e + (i + 1) by omega] at this
        exact this
    · exfalso
      apply h1
      exact Nat.le_trans (Nat.mul_le_mul_left _ (Nat.pow_le_pow_right (by decide) (show e + 40 - OF ≤ e + i + 40 - OF by omega))) hi
noncomputable def runY (b : Nat) (n : Nat) : Nat → Bool :=
  @Nat.rec (fun _ => Nat → Bool) (fun _ => true) (fun _ ih m => ck (runE b m 60 (nng (Nat.add b 2))) (ih (Nat.add m 2))) n
theorem runY_s {b : Nat} (n : Nat) : ∀ (m : Nat), runY b n m = true → ∀ i, i < n → runE b (m + 2 * i) 60 (nng (b + 2)) = true := by
  induction n with
  | zero => intro m _ i hi; exact absurd hi (Nat.not_lt_zero _)
  | succ n ih =>
    intro m h i hi
    obtain ⟨h1, h⟩ := ck_s (show ck (runE b m 60 (nng (Nat.add b 2))) (runY b n (Nat.add m 2)) = true from h)
    cases i with
    | zero => exact h1
    | succ i =>
      have := ih (m + 2) h i (by omega)
      rw [show m + 2 + 2 * i = m + 2 * (i + 1) by omega] at this; exact this
end Mine
end
section
namespace Mine
noncomputable def nX (b : Nat) : Nat := 2 * 2 ^ b + 2 ^ b / 2
noncomputable def p0 : C5 := ⟨OF, v1, v1, OF, 0⟩
noncomputable def InX (b : Nat) (m e : Int) : Prop := (m = 0 ∧ e = 0) ∨ ∃ t, 1 ≤ t ∧ t ≤ nX b ∧ ∃ m2, p_lean ((jf b t : Nat) : Int) (1 - (b : Int)) = some (m2, e) ∧ (m = m2 ∨ m = -m2)
noncomputable def InS (b : Nat) (m e : Int) : Prop := (m = 0 ∧ e = 0) ∨ ∃ t, 1 ≤ t ∧ t ≤ 2 ^ b ∧ ∃ m2, p_lean ((t : Nat) : Int) (-(b : Int)) = some (m2, e) ∧ (m = m2 ∨ m = -m2)
theorem rise {R : Int → Int → Prop} (tr : ∀ {x y z}, R x y → R y z → R x z) {N : Nat} {f : Nat → Int} (h : ∀ i, i < N → R (f i) (f (i + 1))) : ∀ {i j : Nat}, i < j → j ≤ N → R (f i) (f j)
  | i, 0, hij, _ => absurd hij (Nat.not_lt_zero _)
  | i, j + 1, hij, hj => (Nat.lt_or_eq_of_le (Nat.le_of_lt_succ hij)).elim (fun q => tr (rise (R := R) tr h q (Nat.le_of_succ_le hj)) (h j hj)) fun q => q ▸ h j hj
theorem rise' {N : Nat} {f : Nat → Int} (h : ∀ i, i < N → f i ≤ f (i + 1)) {i j : Nat} (hij : i ≤ j) (hj : j ≤ N) : f i ≤ f j :=
  (Nat.lt_or_eq_of_le hij).elim (fun q => rise (R := (· ≤ ·)) Int.le_trans h q hj) fun q => q ▸ Int.le_refl _
noncomputable def two (f g : Nat → Int) (τ : Int) : Int := if 0 ≤ τ then f τ.toNat else g (-τ).toNat
theorem nat_a {τ τ' : Int} {N : Nat} (a : 0 ≤ τ) (h : τ < τ') (h2 : τ' ≤ N) : 0 ≤ τ' ∧ τ.toNat < τ'.toNat ∧ τ'.toNat ≤ N := by omega
theorem nat_b {τ : Int} {N : Nat} (a : ¬ 0 ≤ τ) (h1 : -(N : Int) ≤ τ) : 0 < (-τ).toNat ∧ (-τ).toNat ≤ N := by omega
theorem nat_c {τ τ' : Int} (h : τ < τ') (c : ¬ 0 ≤ τ') : (-τ').toNat < (-τ).toNat := by omega
theorem two_R {R : Int → Int → Prop} (tr : ∀ {x y z}, R x y → R y z → R x z) {N : Nat} {f g : Nat → Int} (hf : ∀ i, i < N → R (f i) (f (i + 1))) (hg : ∀ i, i < N → R (g (i + 1)) (g i)) (h0 : g 0 = f 0) {τ τ' : Int} (h1 : -(N : Int) ≤ τ) (h : τ < τ') (h2 : τ' ≤ N) : R (two f g τ) (two f g τ') := by
  have G := fun {i j} => rise (R := fun x y => R y x) (fun p q => tr q p) hg (i := i) (j := j)
  unfold two
  by_cases a : 0 ≤ τ
  · obtain ⟨c, d, e⟩ := nat_a a h h2
    rw [if_pos a, if_pos c]
    exact rise (R := R) tr hf d e
  · rw [if_neg a]
    obtain ⟨p, q⟩ := nat_b a h1
    by_cases c : 0 ≤ τ'
    · rw [if_pos c]
      have z := G p q
      rw [h0] at z
      rcases Int.lt_or_eq_of_le c with c' | c'
      · obtain ⟨_, d, e⟩ := nat_a (Int.le_refl 0) c' h2
        exact tr z (rise (R := R) tr hf d e)
      · rw [← c']; exact z
    · rw [if_neg c]
      exact G (nat_c h c) q
theorem two_mono {N : Nat} {f g : Nat → Int} (hf : ∀ i, i < N → f i ≤ f (i + 1)) (hg : ∀ i, i < N → g (i + 1) ≤ g i) (h0 : g 0 = f 0) {τ τ' : Int} (h1 : -(N : Int) ≤ τ) (h : τ < τ') (h2 : τ' ≤ N) : two f g τ ≤ two f g τ' := two_R (R := (· ≤ ·)) Int.le_trans hf hg h0 h1 h h2
theorem dec_lt {a b : Nat} (h : a < b) : dec a < dec b := by unfold dec; omega
theorem neg_dec_le {a b : Nat} (h : a ≤ b) : -dec b ≤ -dec a := Int.neg_le_neg (dec_le h)
theorem dec_0 : -dec OF = dec OF := by rw [dec_zero]; rfl
section
variable {b : Nat} {f : Nat → C5}
structure Seq (b : Nat) (f : Nat → C5) : Prop where
  zero : f 0 = p0
  step : ∀ i, i < nX b → XS b (1 + i) (f (i + 1)) ∧ Up5 (f i) (f (i + 1))
noncomputable def El (b : Nat) (f : Nat → C5) (m e τ : Int) : Prop := (τ = 0 ∧ m = 0 ∧ e = 0) ∨ ∃ (t : Nat) (m2 : Int), 1 ≤ t ∧ t ≤ nX b ∧ XFact b m2 e (dec (f t).x) (dec (f t).e) (dec (f t).e') (dec (f t).a) (dec (f t).l) ∧ ((τ = t ∧ m = m2) ∨ (τ = -(t : Int) ∧ m = -m2))
theorem el_of (S : Seq b f) {m e : Int} (h : InX b m e) : ∃ τ, El b f m e τ := by
  rcases h with ⟨h1, h2⟩ | ⟨t, h1, h2, m2, h3, h4⟩
  · exact ⟨0, .inl ⟨rfl, h1, h2⟩⟩
  · obtain ⟨⟨m', e', h5, X⟩, _⟩ := S.step (t - 1) (by omega)
    rw [show 1 + (t - 1) = t by omega, h3] at h5
    cases h5
    rw [show t - 1 + 1 = t by omega] at X
    rcases h4 with h4 | h4
    · exact ⟨t, .inr ⟨t, m2, h1, h2, X, .inl ⟨rfl, h4⟩⟩⟩
    · exact ⟨-(t : Int), .inr ⟨t, m2, h1, h2, X, .inr ⟨rfl, h4⟩⟩⟩
noncomputable def xv (f : Nat → C5) : Int → Int := two (fun i => dec (f i).x) (fun i => -dec (f i).x)
noncomputable def ev (f : Nat → C5) : Int → Int := two (fun i => dec (f i).e) (fun i => dec (f i).e')
noncomputable def av (f : Nat → C5) : Int → Int := two (fun i => dec (f i).a) (fun i => -dec (f i).a)
theorem two_p (f g : Nat → Int) (t : Nat) : two f g (t : Int) = f t := by unfold two; rw [if_pos (by omega)]; rfl
theorem two_n (f g : Nat → Int) {t : Nat} (h : 1 ≤ t) : two f g (-(t : Int)) = g t := by unfold two; rw [if_neg (by omega)]; congr 1; omega
theorem El.range {m e τ : Int} (E : El b f m e τ) : -(nX b : Int) ≤ τ ∧ τ ≤ nX b := by
  rcases E with ⟨h, _⟩ | ⟨t, m2, h1, h2, _, ⟨h, _⟩ | ⟨h, _⟩⟩ <;> omega
theorem El.fi {m e τ : Int} (E : El b f m e τ) : Fi m e := by
  rcases E with ⟨_, rfl, rfl⟩ | ⟨t, m2, h1, h2, X, ⟨_, rfl⟩ | ⟨_, rfl⟩⟩
  · exact ⟨by unfold Sm; exact two_pos 8000, by decide, by decide⟩
  · exact X.fx
  · exact X.fx.neg
theorem El.val (S : Seq b f) {m e τ : Int} (E : El b f m e τ) : vl m e = xv f τ := by
  rcases E with ⟨rfl, rfl, rfl⟩ | ⟨t, m2, h1, h2, X, ⟨rfl, rfl⟩ | ⟨rfl, rfl⟩⟩
  · show _ = two _ _ ((0 : Nat) : Int)
    rw [two_p, S.zero]
    show _ = dec OF
    rw [dec_zero]; unfold vl; rw [Int.zero_mul]
  · unfold xv; rw [two_p]; exact X.hvx
  · unfold xv; rw [two_n _ _ h1, vl_neg, X.hvx]
theorem xv_lt (S : Seq b f) {τ τ' : Int} (h1 : -(nX b : Int) ≤ τ) (h : τ < τ') (h2 : τ' ≤ nX b) : xv f τ < xv f τ' :=
  two_R (R := (· < ·)) Int.lt_trans (fun i hi => dec_lt (S.step i hi).2.1) (fun i hi => Int.neg_lt_neg (dec_lt (S.step i hi).2.1)) (by show -dec (f 0).x = dec (f 0).x; rw [S.zero]; exact dec_0) h1 h h2
theorem ev_le (S : Seq b f) {τ τ' : Int} (h1 : -(nX b : Int) ≤ τ) (h : τ < τ') (h2 : τ' ≤ nX b) : ev f τ ≤ ev f τ' :=
  two_mono (N := nX b) (f := fun i => dec (f i).e) (g := fun i => dec (f i).e') (fun i hi => dec_le (S.step i hi).2.2.1) (fun i hi => dec_le (S.step i hi).2.2.2.1) (by show dec (f 0).e' = dec (f 0).e; rw [S.zero]; rfl) h1 h h2
theorem av_le (S : Seq b f) {τ τ' : Int} (h1 : -(nX b : Int) ≤ τ) (h : τ < τ') (h2 : τ' ≤ nX b) : av f τ ≤ av f τ' :=
  two_mono (N := nX b) (f := fun i => dec (f i).a) (g := fun i => -dec (f i).a) (fun i hi => dec_le (S.step i hi).2.2.2.2.1) (fun i hi => neg_dec_le (S.step i hi).2.2.2.2.1) (by show -dec (f 0).a = dec (f 0).a; rw [S.zero]; show -dec OF = dec OF; rw [dec_zero]; rfl) h1 h h2
theorem sgn_zero {t : Nat} {m m2 : Int} (h : 1 ≤ t) (hm : ((0 : Int) = t ∧ m = m2) ∨ ((0 : Int) = -(t : Int) ∧ m = -m2)) : False := by omega
theorem sgn_inj {t t' : Nat} {τ m m2 m' m2' : Int} (h : 1 ≤ t) (h' : 1 ≤ t') (hm : (τ = t ∧ m = m2) ∨ (τ = -(t : Int) ∧ m = -m2)) (hm' : (τ = t' ∧ m' = m2') ∨ (τ = -(t' : Int) ∧ m' = -m2')) : t = t' ∧ (m2 = m2' → m = m') := by
  rcases hm with ⟨rfl, rfl⟩ | ⟨rfl, rfl⟩ <;> rcases hm' with ⟨q, rfl⟩ | ⟨q, rfl⟩
  · exact ⟨Int.ofNat.inj q, id⟩
  · omega
  · omega
  · exact ⟨Int.ofNat.inj (Int.neg_inj.mp q), congrArg _⟩
theorem nolt {x y i j : Nat} (hx : x % 2 = 1) (he : x * 2 ^ i = y * 2 ^ j) : ¬ i < j := fun hij => by
  obtain ⟨d, rfl⟩ : ∃ d, j = d + 1 + i := ⟨j - i - 1, by omega⟩
  rw [Nat.pow_add, ← Nat.mul_assoc] at he
  have he := Nat.eq_of_mul_eq_mul_right (two_pos i) he
  rw [Nat.pow_succ, ← Nat.mul_assoc] at he
  rw [he, Nat.mul_mod_left] at hx
  cases hx
theorem odd_inj {x y i j : Nat} (hx : x % 2 = 1) (hy : y % 2 = 1) (he : x * 2 ^ i = y * 2 ^ j) : x = y ∧ i = j := by
  have e : i = j := Nat.le_antisymm (Nat.not_lt.mp (nolt hy he.symm)) (Nat.not_lt.mp (nolt hx he))
  subst e
  exact ⟨Nat.eq_of_mul_eq_mul_right (two_pos i) he, rfl⟩
theorem vl_inj {m m' e e' : Int} (p : 0 < m) (p' : 0 < m') (o : m.toNat % 2 = 1) (o' : m'.toNat % 2 = 1) (l : -128 ≤ e) (l' : -128 ≤ e') (h : vl m e = vl m' e') : m = m' ∧ e = e' := by
  obtain ⟨x, rfl⟩ := Int.eq_ofNat_of_zero_le (Int.le_of_lt p)
  obtain ⟨y, rfl⟩ := Int.eq_ofNat_of_zero_le (Int.le_of_lt p')
  unfold vl at h
  rw [← Int.natCast_mul, ← Int.natCast_mul] at h
  obtain ⟨h1, h2⟩ := odd_inj o o' (Int.ofNat.inj h)
  exact ⟨congrArg _ h1, by clear p p' o o' h h1; omega⟩
theorem El.inj {m e m' e' τ : Int} (E : El b f m e τ) (E' : El b f m' e' τ) : m = m' ∧ e = e' := by
  rcases E with ⟨rfl, rfl, rfl⟩ | ⟨t, m2, h1, _, X, hm⟩ <;> rcases E' with ⟨h', rfl, rfl⟩ | ⟨t', m2', h1', _, X', hm'⟩
  · exact ⟨rfl, rfl⟩
  · exact (sgn_zero h1' hm').elim
  · subst h'; exact (sgn_zero h1 hm).elim
  · obtain ⟨rfl, q⟩ := sgn_inj h1 h1' hm hm'
    obtain ⟨h2, h3⟩ := vl_inj X.pos X'.pos X.odd X'.odd X.fx.lo X'.fx.lo (X.hvx.trans X'.hvx.symm)
    exact ⟨q h2, h3⟩
structure ZFact (b : Nat) (c0 : Int) : Prop where
  ex : p_exp_real b 0 0 = some (1, 0)
  at' : p_atan_real b 0 0 = some (0, 0)
  sn : p_sin_real b 0 0 = some (0, 0)
  cs : p_cos_real b 0 0 = some (1, 0)
  tn : p_tan_real b 0 0 = some (0, 0)
  as : p_asin_real b 0 0 = some (0, 0)
  ac : ∃ a c, p_acos_real b 0 0 = some (a, c) ∧ Fi a c ∧ vl a c = c0
  lg : p_log_real b 1 0 = some (0, 0)
  ac1 : p_acos_real b 1 0 = some (0, 0)
  ad : ∃ d g, p_add_reals b 0 0 1 0 = some (d, g) ∧ Fi d g ∧ vl d g ≤ vl 1 0
variable {c0 : Int}
theorem fi00 : Fi 0 0 := ⟨by unfold Sm; exact two_pos 8000, by decide, by decide⟩
theorem vl00 : vl 0 0 = 0 := by unfold vl; rw [Int.zero_mul]
theorem vl10 : 0 < vl 1 0 := by unfold vl; rw [Int.one_mul]; exact pw_pos _
theorem El.exp (S : Seq b f) (Z : ZFact b c0) {m e τ : Int} (E : El b f m e τ) : ∃ a c, p_exp_real b m e = some (a, c) ∧ Fi a c ∧ 0 < a ∧ vl a c = ev f τ ∧ (∃ d g, p_add_reals b m e 1 0 = some (d, g) ∧ Fi d g ∧ vl d g ≤ vl a c) ∧ (0 ≤ m → vl 1 0 ≤ vl a c) ∧ (m < 0 → vl a c ≤ vl 1 0) := by
  rcases E with ⟨rfl, rfl, rfl⟩ | ⟨t, m2, h1, h2, X, ⟨rfl, rfl⟩ | ⟨rfl, rfl⟩⟩
  · refine ⟨_, _, Z.ex, fi10, by decide, ?_, Z.ad, fun _ => Int.le_refl _, fun h => absurd h (by decide)⟩
    show _ = two _ _ ((0 : Nat) : Int)
    rw [two_p, S.zero]
    exact v1_eq.symm
  · obtain ⟨a, c, q1, q2, q3, q4, ⟨d, g, q5, q6, q7⟩, q8⟩ := X.ex
    have p := X.pos
    refine ⟨a, c, q1, q2, q3, ?_, ⟨d, g, q5, q6, by rw [q4]; exact q7⟩, fun _ => by rw [q4]; exact q8, fun h => by omega⟩
    unfold ev; rw [two_p]; exact q4
  · obtain ⟨a, c, q1, q2, q3, q4, ⟨d, g, q5, q6, q7⟩, q8⟩ := X.ex'
    have p := X.pos
    refine ⟨a, c, q1, q2, q3, ?_, ⟨d, g, q5, q6, by rw [q4]; exact q7⟩, fun h => by omega, fun _ => by rw [q4]; exact q8⟩
    unfold ev; rw [two_n _ _ h1]; exact q4
theorem El.atan (S : Seq b f) (Z : ZFact b c0) {m e τ : Int} (E : El b f m e τ) : ∃ a c, p_atan_real b m e = some (a, c) ∧ p_atan_real b (-m) e = some (-a, c) ∧ Fi a c ∧ vl a c = av f τ ∧ (0 < m → vl a c ≤ vl m e) := by
  rcases E with ⟨rfl, rfl, rfl⟩ | ⟨t, m2, h1, h2, X, ⟨rfl, rfl⟩ | ⟨rfl, rfl⟩⟩
  · refine ⟨_, _, Z.at', Z.at', fi00, ?_, fun h => absurd h (by decide)⟩
    show _ = two _ _ ((0 : Nat) : Int)
    rw [two_p, S.zero, vl00]
    exact dec_zero.symm
  · obtain ⟨a, c, q1, q2, q3, q4, q5, q6⟩ := X.at'
    refine ⟨a, c, q1, q2, q3, ?_, fun _ => by rw [q4, X.hvx]; exact q6⟩
    unfold av; rw [two_p]; exact q4
  · obtain ⟨a, c, q1, q2, q3, q4, q5, q6⟩ := X.at'
    have p := X.pos
    refine ⟨-a, c, q2, by rw [Int.neg_neg, Int.neg_neg]; exact q1, q3.neg, ?_, fun h => by omega⟩
    unfold av; rw [two_n _ _ h1, vl_neg, q4]
theorem El.sin (S : Seq b f) (Z : ZFact b c0) {m e τ : Int} (E : El b f m e τ) : ∃ a c, p_sin_real b m e = some (a, c) ∧ p_sin_real b (-m) e = some (-a, c) ∧ Fi a c ∧ -vl 1 0 ≤ vl a c ∧ vl a c ≤ vl 1 0 ∧ (0 < m → vl a c ≤ vl m e) := by
  have := vl10
  rcases E with ⟨rfl, rfl, rfl⟩ | ⟨t, m2, h1, h2, X, ⟨rfl, rfl⟩ | ⟨rfl, rfl⟩⟩
  · exact ⟨_, _, Z.sn, Z.sn, fi00, by rw [vl00]; omega, by rw [vl00]; omega, fun h => absurd h (by decide)⟩
  · obtain ⟨a, c, q1, q2, q3, q4, q5, q6⟩ := X.sn
    exact ⟨a, c, q1, q2, q3, q4, q5, fun _ => by rw [X.hvx]; exact q6⟩
  · obtain ⟨a, c, q1, q2, q3, q4, q5, q6⟩ := X.sn
    have p := X.pos
    exact ⟨-a, c, q2, by rw [Int.neg_neg, Int.neg_neg]; exact q1, q3.neg, by rw [vl_neg]; omega, by rw [vl_neg]; omega, fun h => by omega⟩
theorem El.cos (S : Seq b f) (Z : ZFact b c0) {m e τ : Int} (E : El b f m e τ) : ∃ a c, p_cos_real b m e = some (a, c) ∧ p_cos_real b (-m) e = some (a, c) ∧ Fi a c ∧ -vl 1 0 ≤ vl a c ∧ vl a c ≤ vl 1 0 := by
  have := vl10
  rcases E with ⟨rfl, rfl, rfl⟩ | ⟨t, m2, h1, h2, X, ⟨rfl, rfl⟩ | ⟨rfl, rfl⟩⟩
  · exact ⟨_, _, Z.cs, Z.cs, fi10, by omega, Int.le_refl _⟩
  · exact X.cs
  · obtain ⟨a, c, q1, q2, q3, q4, q5⟩ := X.cs
    exact ⟨a, c, q2, by rw [Int.neg_neg]; exact q1, q3, q4, q5⟩
theorem El.tan (S : Seq b f) (Z : ZFact b c0) {m e τ : Int} (E : El b f m e τ) : ∃ a c, p_tan_real b m e = some (a, c) ∧ p_tan_real b (-m) e = some (-a, c) := by
  rcases E with ⟨rfl, rfl, rfl⟩ | ⟨t, m2, h1, h2, X, ⟨rfl, rfl⟩ | ⟨rfl, rfl⟩⟩
  · exact ⟨_, _, Z.tn, Z.tn⟩
  · exact X.tn
  · obtain ⟨a, c, q1, q2⟩ := X.tn
    exact ⟨-a, c, q2, by rw [Int.neg_neg, Int.neg_neg]; exact q1⟩
theorem El.log {m e τ : Int} (E : El b f m e τ) (hm : 0 < m) : ∃ (t : Nat) (a c d g : Int), τ = t ∧ 1 ≤ t ∧ t ≤ nX b ∧ p_log_real b m e = some (a, c) ∧ Fi a c ∧ vl a c = dec (f t).l ∧ p_subtract_reals b m e 1 0 = some (d, g) ∧ Fi d g ∧ vl a c ≤ vl d g := by
  rcases E with ⟨rfl, rfl, rfl⟩ | ⟨t, m2, h1, h2, X, ⟨rfl, rfl⟩ | ⟨rfl, rfl⟩⟩
  · exact absurd hm (by decide)
  · obtain ⟨a, c, q1, q2, q3, d, g, q4, q5, q6⟩ := X.lg
    exact ⟨t, a, c, d, g, rfl, h1, h2, q1, q2, q3, q4, q5, q3 ▸ q6⟩
  · exact absurd hm (Int.not_lt.mpr (Int.neg_nonpos_of_nonneg (Int.le_of_lt X.pos)))
end
end Mine
end
section
namespace Mine
section
variable {b : Nat} {f : Nat → C4} {c : Nat}
structure SeqS (b : Nat) (f : Nat → C4) (c : Nat) : Prop where
  zero : f 0 = ⟨OF, OF, c, c⟩
  step : ∀ i, i < 2 ^ b → SS b (1 + i) (f (i + 1)) ∧ Up4 (f i) (f (i + 1))
noncomputable def ElS (b : Nat) (f : Nat → C4) (m e τ : Int) : Prop := (τ = 0 ∧ m = 0 ∧ e = 0) ∨ ∃ (t : Nat) (m2 : Int), 1 ≤ t ∧ t ≤ 2 ^ b ∧ p_lean ((t : Nat) : Int) (-(b : Int)) = some (m2, e) ∧ SFact b m2 e (dec (f t).x) (dec (f t).a) (dec (f t).c) (dec (f t).c') ∧ ((τ = t ∧ m = m2) ∨ (τ = -(t : Int) ∧ m = -m2))
theorem els_of (S : SeqS b f c) {m e : Int} (h : InS b m e) : ∃ τ, ElS b f m e τ := by
  rcases h with ⟨h1, h2⟩ | ⟨t, h1, h2, m2, h3, h4⟩
  · exact ⟨0, .inl ⟨rfl, h1, h2⟩⟩
  · obtain ⟨⟨m', e', h5, X⟩, _⟩ := S.step (t - 1) (by omega)
    rw [show 1 + (t - 1) = t by omega, h3] at h5
    cases h5
    rw [show t - 1 + 1 = t by omega] at X
    rcases h4 with h4 | h4
    · exact ⟨t, .inr ⟨t, m2, h1, h2, h3, X, .inl ⟨rfl, h4⟩⟩⟩
    · exact ⟨-(t : Int), .inr ⟨t, m2, h1, h2, h3, X, .inr ⟨rfl, h4⟩⟩⟩
noncomputable def xs (f : Nat → C4) : Int → Int := two (fun i => dec (f i).x) (fun i => -dec (f i).x)
noncomputable def sa (f : Nat → C4) : Int → Int := two (fun i => dec (f i).a) (fun i => -dec (f i).a)
noncomputable def sc (f : Nat → C4) : Int → Int := two (fun i => -dec (f i).c) (fun i => -dec (f i).c')
theorem ElS.range {m e τ : Int} (E : ElS b f m e τ) : -((2 ^ b : Nat) : Int) ≤ τ ∧ τ ≤ ((2 ^ b : Nat) : Int) := by
  have := pw_pos b
  rcases E with ⟨h, _⟩ | ⟨t, m2, h1, h2, _, _, ⟨h, _⟩ | ⟨h, _⟩⟩ <;> omega
theorem ElS.fi {m e τ : Int} (E : ElS b f m e τ) : Fi m e := by
  rcases E with ⟨_, rfl, rfl⟩ | ⟨t, m2, h1, h2, _, X, ⟨_, rfl⟩ | ⟨_, rfl⟩⟩
  · exact fi00
  · exact X.fx
  · exact X.fx.neg
theorem ElS.val (S : SeqS b f c) {m e τ : Int} (E : ElS b f m e τ) : vl m e = xs f τ := by
  rcases E with ⟨rfl, rfl, rfl⟩ | ⟨t, m2, h1, h2, _, X, ⟨rfl, rfl⟩ | ⟨rfl, rfl⟩⟩
  · show _ = two _ _ ((0 : Nat) : Int)
    rw [two_p, S.zero]
    show _ = dec OF
    rw [dec_zero, vl00]
  · unfold xs; rw [two_p]; exact X.hvs
  · unfold xs; rw [two_n _ _ h1, vl_neg, X.hvs]
theorem xs_lt (S : SeqS b f c) {τ τ' : Int} (h1 : -((2 ^ b : Nat) : Int) ≤ τ) (h : τ < τ') (h2 : τ' ≤ ((2 ^ b : Nat) : Int)) : xs f τ < xs f τ' :=
  two_R (R := (· < ·)) Int.lt_trans (fun i hi => dec_lt (S.step i hi).2.1) (fun i hi => Int.neg_lt_neg (dec_lt (S.step i hi).2.1)) (by show -dec (f 0).x = dec (f 0).x; rw [S.zero]; exact dec_0) h1 h h2
theorem sa_le (S : SeqS b f c) {τ τ' : Int} (h1 : -((2 ^ b : Nat) : Int) ≤ τ) (h : τ < τ') (h2 : τ' ≤ ((2 ^ b : Nat) : Int)) : sa f τ ≤ sa f τ' :=
  two_mono (N := 2 ^ b) (f := fun i => dec (f i).a) (g := fun i => -dec (f i).a) (fun i hi => dec_le (S.step i hi).2.2.1) (fun i hi => neg_dec_le (S.step i hi).2.2.1) (by show -dec (f 0).a = dec (f 0).a; rw [S.zero]; show -dec OF = dec OF; rw [dec_zero]; rfl) h1 h h2
theorem sc_le (S : SeqS b f c) {τ τ' : Int} (h1 : -((2 ^ b : Nat) : Int) ≤ τ) (h : τ < τ') (h2 : τ' ≤ ((2 ^ b : Nat) : Int)) : sc f τ ≤ sc f τ' :=
  two_mono (N := 2 ^ b) (f := fun i => -dec (f i).c) (g := fun i => -dec (f i).c') (fun i hi => neg_dec_le (S.step i hi).2.2.2.1) (fun i hi => neg_dec_le (S.step i hi).2.2.2.2) (by show -dec (f 0).c' = -dec (f 0).c; rw [S.zero]) h1 h h2
theorem ElS.inj {m e m' e' τ : Int} (E : ElS b f m e τ) (E' : ElS b f m' e' τ) : m = m' ∧ e = e' := by
  rcases E with ⟨rfl, rfl, rfl⟩ | ⟨t, m2, h1, _, hl, _, hm⟩ <;> rcases E' with ⟨h', rfl, rfl⟩ | ⟨t', m2', h1', _, hl', _, hm'⟩
  · exact ⟨rfl, rfl⟩
  · exact (sgn_zero h1' hm').elim
  · subst h'; exact (sgn_zero h1 hm).elim
  · obtain ⟨rfl, q⟩ := sgn_inj h1 h1' hm hm'
    rw [hl] at hl'
    cases hl'
    exact ⟨q rfl, rfl⟩
variable {c0 : Int}
theorem ElS.asin (S : SeqS b f c) (Z : ZFact b c0) {m e τ : Int} (E : ElS b f m e τ) : ∃ a d, p_asin_real b m e = some (a, d) ∧ p_asin_real b (-m) e = some (-a, d) ∧ Fi a d ∧ vl a d = sa f τ ∧ (m < 0 → vl a d ≤ vl m e) ∧ (0 ≤ m → vl m e ≤ vl a d) := by
  rcases E with ⟨rfl, rfl, rfl⟩ | ⟨t, m2, h1, h2, _, X, ⟨rfl, rfl⟩ | ⟨rfl, rfl⟩⟩
  · refine ⟨_, _, Z.as, Z.as, fi00, ?_, fun h => absurd h (by decide), fun _ => Int.le_refl _⟩
    show _ = two _ _ ((0 : Nat) : Int)
    rw [two_p, S.zero, vl00]
    exact dec_zero.symm
  · obtain ⟨a, d, q1, q2, q3, q4, q5⟩ := X.as
    have p := X.pos
    refine ⟨a, d, q1, q2, q3, ?_, fun h => by omega, fun _ => by rw [q4, X.hvs]; exact q5⟩
    unfold sa; rw [two_p]; exact q4
  · obtain ⟨a, d, q1, q2, q3, q4, q5⟩ := X.as
    have p := X.pos
    refine ⟨-a, d, q2, by rw [Int.neg_neg, Int.neg_neg]; exact q1, q3.neg, ?_, fun h => by rw [vl_neg, vl_neg, q4, X.hvs]; omega, fun h => by omega⟩
    unfold sa; rw [two_n _ _ h1, vl_neg, q4]
theorem ElS.acos (S : SeqS b f c) (Z : ZFact b (dec c)) {m e τ : Int} (E : ElS b f m e τ) : ∃ a d, p_acos_real b m e = some (a, d) ∧ Fi a d ∧ vl a d = -sc f τ := by
  rcases E with ⟨rfl, rfl, rfl⟩ | ⟨t, m2, h1, h2, _, X, ⟨rfl, rfl⟩ | ⟨rfl, rfl⟩⟩
  · obtain ⟨a, d, q1, q2, q3⟩ := Z.ac
    refine ⟨a, d, q1, q2, ?_⟩
    show _ = -two _ _ ((0 : Nat) : Int)
    rw [two_p, S.zero, q3, Int.neg_neg]
  · obtain ⟨a, d, q1, q2, q3⟩ := X.ac
    refine ⟨a, d, q1, q2, ?_⟩
    unfold sc; rw [two_p, Int.neg_neg]; exact q3
  · obtain ⟨a, d, q1, q2, q3⟩ := X.ac'
    refine ⟨a, d, q1, q2, ?_⟩
    unfold sc; rw [two_n _ _ h1, Int.neg_neg]; exact q3
theorem ElS.tan (Z : ZFact b c0) {m e τ : Int} (E : ElS b f m e τ) : ∃ a d, p_tan_real b m e = some (a, d) ∧ Fi a d ∧ (m < 0 → vl a d ≤ vl m e) ∧ (0 ≤ m → vl m e ≤ vl a d) := by
  rcases E with ⟨rfl, rfl, rfl⟩ | ⟨t, m2, h1, h2, _, X, ⟨rfl, rfl⟩ | ⟨rfl, rfl⟩⟩
  · exact ⟨_, _, Z.tn, fi00, fun h => absurd h (by decide), fun _ => Int.le_refl _⟩
  · obtain ⟨a, d, q1, q2, q3, q5⟩ := X.tn
    have p := X.pos
    exact ⟨a, d, q1, q3, fun h => by omega, fun _ => by rw [X.hvs]; exact q5⟩
  · obtain ⟨a, d, q1, q2, q3, q5⟩ := X.tn
    have p := X.pos
    exact ⟨-a, d, q2, q3.neg, fun h => by rw [vl_neg, vl_neg, X.hvs]; omega, fun h => by omega⟩
end
theorem cps {G : Prop} (h : ∀ P : Prop, (G → P) → P) : G := h G id
theorem neg_eq (m e : Int) : p_negative m e = some (-m, e) := by unfold p_negative; rw [Int.zero_sub]
theorem same_refl (m e : Int) : p_same_real m e m e = some true := by rw [same_eq]; simp
section
variable {C : Cx} {b : Nat} {f : Nat → C5} {g : Nat → C4} {c : Nat}
theorem rNeg_of {f : Int → Int → Option (Int × Int)} {m e a c : Int} (p : f m e = some (a, c)) (q : f (-m) e = some (-a, c)) {α : Type} (K : V → Option α) : rNeg f m e K = K (.tup [.real (-a) c, .real (-a) c]) := by
  unfold rNeg; rw [neg_eq, Option.bind_some, q, Option.bind_some, p, Option.bind_some, neg_eq]; rfl
theorem rCos_of {f : Int → Int → Option (Int × Int)} {m e a c : Int} (p : f m e = some (a, c)) (q : f (-m) e = some (a, c)) {α : Type} (K : V → Option α) : rCos f m e K = K (.tup [.real a c, .real a c]) := by
  unfold rCos; rw [neg_eq, Option.bind_some, q, Option.bind_some, p]; rfl
theorem rowS (a c : Int) : RowS (.tup [.real a c, .real a c]) := ⟨(a, c), (a, c), rfl, same_refl a c⟩
theorem odd_law (H : C.All) (S : Seq b f) (T : SeqS b g c) (Z : ZFact b (dec c)) {m e m' e' τ σ : Int} (E : El b f m e τ) (G : ElS b g m' e' σ) : Spec C 15 "_law_is_odd" [.int b, .real m e, .real m' e'] (fun v => v = .bool true) := by
  refine cps fun P done => ?_
  obtain ⟨a1, c1, p1, q1, _⟩ := E.sin S Z
  obtain ⟨a2, c2, p2, q2, _⟩ := E.cos S Z
  obtain ⟨a3, c3, p3, q3⟩ := E.tan S Z
  obtain ⟨a4, c4, p4, q4, _⟩ := E.atan S Z
  obtain ⟨a5, c5, p5, q5, _⟩ := G.asin T Z
  exact done (spec_law_is_odd H (rNeg_of p1 q1) (rCos_of p2 q2) (rNeg_of p3 q3) (rNeg_of p4 q4) (rNeg_of p5 q5) (fs1 (rowS _ _) (fs1 (rowS _ _) (fs1 (rowS _ _) (fs1 (rowS _ _) (fs1 (rowS _ _) fs0))))))
theorem cmp_tau {m e m' e' τ τ' : Int} {h : Int → Int} {N : Int} (f1 : Fi m e) (f2 : Fi m' e') (v1 : vl m e = h τ) (v2 : vl m' e' = h τ') (r1 : -N ≤ τ ∧ τ ≤ N) (r2 : -N ≤ τ' ∧ τ' ≤ N) (hl : ∀ {x y : Int}, -N ≤ x → x < y → y ≤ N → h x < h y) : p_compare_reals m e m' e' = some (sg (τ - τ')) := by
  rw [cmp_eq f1 f2, v1, v2]
  refine congrArg some ?_
  rcases Int.lt_trichotomy τ τ' with q | q | q
  · have := hl r1.1 q r2.2
    rw [sg_neg (by omega), sg_neg (by omega)]
  · rw [q, Int.sub_self, Int.sub_self]
  · have := hl r2.1 q r1.2
    rw [sg_pos (by omega), sg_pos (by omega)]
theorem rd {F : Int → Int → Option (Int × Int)} {m e n k τ τ' a a' d d' : Int} {v : Int → Int} (p : F m e = some (a, d)) (p' : F n k = some (a', d')) (f1 : Fi a d) (f2 : Fi a' d') (v1 : vl a d = v τ) (v2 : vl a' d' = v τ') (lt : τ < τ' → v τ ≤ v τ') (gt : τ' < τ → v τ' ≤ v τ) (same : τ = τ' → m = n ∧ e = k) : RdK F m e n k (sg (τ - τ')) :=
  rdK p p' (row_ok f1 f2 (fun h => by rw [v1, v2]; exact lt h) (fun h => by rw [v1, v2]; exact gt h) fun h => by
    obtain ⟨rfl, rfl⟩ := same h
    rw [p] at p'; cases p'; exact ⟨rfl, rfl⟩)
theorem log_up (S : Seq b f) {i j : Nat} (a : 1 ≤ i) (q : i ≤ j) (r : j ≤ nX b) : dec (f i).l ≤ dec (f j).l := rise' (f := fun i => dec (f i).l) (N := nX b) (fun i hi => dec_le (S.step i hi).2.2.2.2.2) q r
theorem ordered_law (H : C.All) (S : Seq b f) (T : SeqS b g c) (Z : ZFact b (dec c)) {m e n k τ τ' m' e' n' k' σ σ' : Int} (E : El b f m e τ) (E' : El b f n k τ') (G : ElS b g m' e' σ) (G' : ElS b g n' k' σ') :
    Spec C 15 "_law_are_ordered" [.int b, .real m e, .real n k, .real m' e', .real n' k'] (fun v => v = .bool true) := by
  refine cps fun P done => ?_
  have R := E.range
  have R' := E'.range
  have Q := G.range
  have Q' := G'.range
  have same : τ = τ' → m = n ∧ e = k := fun q => by subst q; exact E.inj E'
  have same' : σ = σ' → m' = n' ∧ e' = k' := fun q => by subst q; exact G.inj G'
  have r1 : RdK (p_exp_real b) m e n k (sg (τ - τ')) := by
    obtain ⟨a1, c1, p1, f1, _, v1, _⟩ := E.exp S Z
    obtain ⟨a2, c2, p2, f2, _, v2, _⟩ := E'.exp S Z
    exact rd p1 p2 f1 f2 v1 v2 (fun h => ev_le S R.1 h R'.2) (fun h => ev_le S R'.1 h R.2) same
  have r2 : RdK (p_atan_real b) m e n k (sg (τ - τ')) := by
    obtain ⟨a1, c1, p1, _, f1, v1, _⟩ := E.atan S Z
    obtain ⟨a2, c2, p2, _, f2, v2, _⟩ := E'.atan S Z
    exact rd p1 p2 f1 f2 v1 v2 (fun h => av_le S R.1 h R'.2) (fun h => av_le S R'.1 h R.2) same
  have r3 : RdK (p_asin_real b) m' e' n' k' (sg (σ - σ')) := by
    obtain ⟨a1, c1, p1, _, f1, v1, _⟩ := G.asin T Z
    obtain ⟨a2, c2, p2, _, f2, v2, _⟩ := G'.asin T Z
    exact rd p1 p2 f1 f2 v1 v2 (fun h => sa_le T Q.1 h Q'.2) (fun h => sa_le T Q'.1 h Q.2) same'
  have r4 : RdK (p_acos_real b) n' k' m' e' (sg (σ - σ')) := by
    obtain ⟨a1, c1, p1, f1, v1⟩ := G.acos T Z
    obtain ⟨a2, c2, p2, f2, v2⟩ := G'.acos T Z
    refine rdK p2 p1 (row_ok f2 f1 (fun h => by rw [v1, v2]; exact Int.neg_le_neg (sc_le T Q.1 h Q'.2)) (fun h => by rw [v1, v2]; exact Int.neg_le_neg (sc_le T Q'.1 h Q.2)) fun h => ?_)
    obtain ⟨rfl, rfl⟩ := same' h
    rw [p1] at p2; cases p2; exact ⟨rfl, rfl⟩
  have x1 := cmp_tau E.fi E'.fi (E.val S) (E'.val S) R R' (fun a b c => xv_lt S a b c)
  have x2 := cmp_tau G.fi G'.fi (G.val T) (G'.val T) Q Q' (fun a b c => xs_lt T a b c)
  refine done (spec_law_are_ordered H x1 x2 r1 r2 r3 r4 fun hm hn => ?_)
  obtain ⟨t1, a9, c9, _, _, rfl, i1, j1, p9, f9, v9, _⟩ := E.log hm
  obtain ⟨t2, a0, c0, _, _, rfl, i2, j2, p0, f0, v0, _⟩ := E'.log hn
  refine rdK p9 p0 (row_ok f9 f0 (fun h => ?_) (fun h => ?_) fun h => ?_)
  · rw [v9, v0]; exact log_up S i1 (Nat.le_of_lt (Int.ofNat_lt.mp h)) j2
  · rw [v9, v0]; exact log_up S i2 (Nat.le_of_lt (Int.ofNat_lt.mp h)) j1
  · obtain ⟨rfl, rfl⟩ := same h
    rw [p9] at p0; cases p0; exact ⟨rfl, rfl⟩
theorem vm10 : vl (-1) 0 = -vl 1 0 := vl_neg 1 0
theorem fim10 : Fi (-1) 0 := fi10.neg
theorem bound_law (H : C.All) (S : Seq b f) (T : SeqS b g c) (Z : ZFact b (dec c)) {m e m' e' τ σ : Int} (E : El b f m e τ) (G : ElS b g m' e' σ) : Spec C 15 "_law_are_bound" [.int b, .real m e, .real m' e'] (fun v => v = .bool true) := by
  refine cps fun P done => ?_
  obtain ⟨a1, c1, p1, f1, g1, _, ⟨d1, k1, r1, w1, l1⟩, u1, u2⟩ := E.exp S Z
  obtain ⟨a2, c2, p2, _, f2, y2, y3, y4⟩ := E.sin S Z
  obtain ⟨a3, c3, p3, _, f3, y5, y6⟩ := E.cos S Z
  obtain ⟨a4, c4, p4, _, f4, _, y7⟩ := E.atan S Z
  obtain ⟨a5, c5, p5, _, f5, _, z1, z2⟩ := G.asin T Z
  obtain ⟨a6, c6, p6, f6, z3, z4⟩ := G.tan Z
  refine done (spec_law_are_bound H p1 (decide_eq_false (Int.not_le.mpr g1)) r1 (most_tt w1 f1 l1) (fun h => most_tt fi10 f1 (u1 h)) (fun h => most_tt f1 fi10 (u2 h)) p2 (bIn_s (most_tt f2 fi10 y3) (most_tt fim10 f2 (by rw [vm10]; exact y2))) p3
    (bIn_s (most_tt f3 fi10 y6) (most_tt fim10 f3 (by rw [vm10]; exact y5)))
    (fun h => by
      obtain ⟨_, a9, c9, d2, k2, _, _, _, p9, f9, _, r2, w2, l2⟩ := E.log h
      exact ⟨_, _, _, p9, r2, most_tt f9 w2 l2, most_tt f2 E.fi (y4 h), p4, most_tt f4 E.fi (y7 h)⟩) p5 p6 (fun h => ⟨most_tt f5 G.fi (z1 h), most_tt f6 G.fi (z3 h)⟩) fun h => ⟨most_tt G.fi f5 (z2 h), most_tt G.fi f6 (z4 h)⟩)
end
end Mine
end
section
namespace Mine
noncomputable def ckz (b c : Nat) : Bool :=
  n_exp_real (nlit b) OF OF fun a1 a2 => ck (Nat.beq a1 (nlit 1)) (ck (Nat.beq a2 OF) (
  n_atan_real (nlit b) OF OF fun b1 b2 => ck (Nat.beq b1 OF) (ck (Nat.beq b2 OF) (
  n_sin_real (nlit b) OF OF fun c1 c2 => ck (Nat.beq c1 OF) (ck (Nat.beq c2 OF) (
  n_cos_real (nlit b) OF OF fun d1 d2 => ck (Nat.beq d1 (nlit 1)) (ck (Nat.beq d2 OF) (
  n_tan_real (nlit b) OF OF fun e1 e2 => ck (Nat.beq e1 OF) (ck (Nat.beq e2 OF) (
  n_asin_real (nlit b) OF OF fun f1 f2 => ck (Nat.beq f1 OF) (ck (Nat.beq f2 OF) (
  n_acos_real (nlit b) OF OF fun g1 g2 => nvl g1 g2 fun v => ck (Nat.beq v c) (
  n_log_real (nlit b) (nlit 1) OF fun h1 h2 => ck (Nat.beq h1 OF) (ck (Nat.beq h2 OF) (
  n_acos_real (nlit b) (nlit 1) OF fun i1 i2 => ck (Nat.beq i1 OF) (ck (Nat.beq i2 OF) (
  n_add_reals (nlit b) OF OF (nlit 1) OF fun j1 j2 => nvl j1 j2 fun w => Nat.ble w v1)))))))))))))))))
theorem is_at {o : Option (Int × Int)} {a c : Nat} {x y : Int} {K : Bool} (hx : dec a = x) (hy : dec c = y) (h : ∃ r, o = some r ∧ ∃ c' d', r = (dec c', dec d') ∧ ck (Nat.beq c' a) (ck (Nat.beq d' c) K) = true) : o = some (x, y) ∧ K = true := by
  obtain ⟨_, e, c', d', rfl, h⟩ := h
  obtain ⟨e1, h⟩ := ckq h
  obtain ⟨e2, h⟩ := ckq h
  exact ⟨by rw [e, e1, e2, hx, hy], h⟩
theorem ckz_s {b c : Nat} (h : ckz b c = true) : ZFact b (dec c) := by
  refine cps fun P done => ?_
  have one : dec (nlit 1) = 1 := dec_lit 1
  have z := dec_zero
  obtain ⟨r1, h⟩ := is_at one z (n_exp_real_s (dec_lit b) z z h)
  obtain ⟨r2, h⟩ := is_at z z (n_atan_real_s (dec_lit b) z z h)
  obtain ⟨r3, h⟩ := is_at z z (n_sin_real_s (dec_lit b) z z h)
  obtain ⟨r4, h⟩ := is_at one z (n_cos_real_s (dec_lit b) z z h)
  obtain ⟨r5, h⟩ := is_at z z (n_tan_real_s (dec_lit b) z z h)
  obtain ⟨r6, h⟩ := is_at z z (n_asin_real_s (dec_lit b) z z h)
  obtain ⟨_, r7, g1, g2, rfl, h⟩ := n_acos_real_s (dec_lit b) z z h
  obtain ⟨v, wv, fv, h⟩ := nvl_s h
  obtain ⟨q13, h⟩ := ckq h
  obtain ⟨r8, h⟩ := is_at z z (n_log_real_s (dec_lit b) one z h)
  obtain ⟨r9, h⟩ := is_at z z (n_acos_real_s (dec_lit b) one z h)
  obtain ⟨_, r10, j1, j2, rfl, h⟩ := n_add_reals_s (dec_lit b) z z one z h
  obtain ⟨w, ww, fw, h⟩ := nvl_s h
  exact done ⟨r1, r2, r3, r4, r5, r6, ⟨_, _, r7, fv, q13 ▸ wv⟩, r8, r9, ⟨_, _, r10, fw, ww ▸ v1_eq ▸ dec_le (Nat.le_of_ble_eq_true h)⟩⟩
noncomputable def lk (b z e j el : Nat) (K : Bool) : Bool :=
  n_shifted_round (nlit b) (nlit z) e fun m1 e1 => n_shifted_round (nlit b) (nng z) e fun m2 e2 => n_lean (nlit j) el fun m3 e3 =>
  ck (Nat.beq m1 m3) (ck (Nat.beq e1 e3) (ck (Nat.beq (Nat.add m2 m3) (Nat.add OF OF)) (ck (Nat.beq e2 e3) K)))
theorem lkn_s {b z e j el : Nat} {K : Bool} (hz : z ≤ OF) (h : lk b z e j el K = true) : (∃ m k, p_lean (j : Int) (dec el) = some (m, k) ∧ p_shifted_round b z (dec e) = some (m, k) ∧ p_shifted_round b (-(z : Int)) (dec e) = some (-m, k)) ∧ K = true := by
  unfold lk at h
  obtain ⟨_, r1, m1, e1, rfl, h⟩ := n_shifted_round_s (dec_lit b) (dec_lit z) rfl h
  obtain ⟨_, r2, m2, e2, rfl, h⟩ := n_shifted_round_s (dec_lit b) (dec_ng z hz) rfl h
  obtain ⟨_, r3, m3, e3, rfl, h⟩ := n_lean_s (dec_lit j) rfl h
  obtain ⟨q1, h⟩ := ckq h
  obtain ⟨q2, h⟩ := ckq h
  obtain ⟨q3, h⟩ := ckq h
  obtain ⟨q4, h⟩ := ckq h
  simp only [Nat.add_eq] at q3
  have n3 : dec m2 = -dec m3 := by unfold dec; omega
  rw [q1, q2] at r1
  rw [n3, q4] at r2
  exact ⟨⟨_, _, r3, r1, r2⟩, h⟩
noncomputable def ti (b j : Nat) : Nat :=
  (fun P => nsl (Nat.ble j P) j (nsl (Nat.ble j (Nat.mul 2 P)) (Nat.add P (Nat.div (Nat.sub j P) 2)) (nsl (Nat.ble j (Nat.mul 4 P)) (Nat.add (Nat.add P (Nat.div P 2)) (Nat.div (Nat.sub j (Nat.mul 2 P)) 4)) (Nat.add (Nat.mul 2 P) (Nat.div (Nat.sub j (Nat.mul 4 P)) 8))))) (Nat.pow 2 b)
noncomputable def lx (b z k : Nat) (K : Bool) : Bool :=
  (fun j => (fun t => ck (Nat.beq (jf b t) j) (ck (Nat.ble 1 t) (ck (Nat.ble t (nX b)) (lk b z (Nat.sub (nlit (Nat.add k 1)) b) j (nng (Nat.sub b 1)) K)))) (ti b j)) (Nat.mul z (Nat.pow 2 k))
theorem lx_s {b z k : Nat} {K : Bool} (hb : 1 ≤ b) (hb2 : b ≤ 1000) (hz : z ≤ OF) (h : lx b z k K = true) : (∃ m e, InX b m e ∧ InX b (-m) e ∧ p_shifted_round b z ((k : Int) - b + 1) = some (m, e) ∧ p_shifted_round b (-(z : Int)) ((k : Int) - b + 1) = some (-m, e)) ∧ K = true := by
  unfold lx at h
  dsimp only at h
  obtain ⟨q1, h⟩ := ckq h
  obtain ⟨q2, h⟩ := ckb h
  obtain ⟨q3, h⟩ := ckb h
  obtain ⟨⟨m, e, r1, r2, r3⟩, h⟩ := lkn_s hz h
  have big := OF_big
  have e1 : dec (Nat.sub (nlit (Nat.add k 1)) b) = (k : Int) - b + 1 := by unfold dec nlit; simp only [Nat.add_eq, Nat.sub_eq]; omega
  rw [e1] at r2 r3
  rw [← q1, Nat.sub_eq, dec_ng (b - 1) (by omega), show -((b - 1 : Nat) : Int) = 1 - (b : Int) by omega] at r1
  exact ⟨⟨m, e, .inr ⟨_, q2, q3, m, r1, .inl rfl⟩, .inr ⟨_, q2, q3, m, r1, .inr rfl⟩, r2, r3⟩, h⟩
noncomputable def runL (b n : Nat) : Nat → Bool :=
  @Nat.rec (fun _ => Nat → Bool) (fun _ => true) (fun _ ih z => lx b z 0 (lx b z 1 (lx b z 2 (lx b z 3 (lk b z (nng b) z (nng b) (ih (Nat.add z 1))))))) n
theorem runL_s {b : Nat} (hb : 1 ≤ b) (hb2 : b ≤ 1000) (n : Nat) : ∀ (z : Nat), z + n ≤ OF → runL b n z = true → ∀ i, i < n →
    (∀ k : Nat, k < 4 → ∃ m e, InX b m e ∧ InX b (-m) e ∧ p_shifted_round b ((z + i : Nat) : Int) ((k : Int) - b + 1) = some (m, e) ∧ p_shifted_round b (-((z + i : Nat) : Int)) ((k : Int) - b + 1) = some (-m, e)) ∧
    (∃ m e, p_lean ((z + i : Nat) : Int) (-(b : Int)) = some (m, e) ∧ p_shifted_round b ((z + i : Nat) : Int) (-(b : Int)) = some (m, e) ∧ p_shifted_round b (-((z + i : Nat) : Int)) (-(b : Int)) = some (-m, e)) := by
  induction n with
  | zero => intro z _ _ i hi; exact absurd hi (Nat.not_lt_zero _)
  | succ n ih =>
    intro z hz h i hi
    have h : lx b z 0 (lx b z 1 (lx b z 2 (lx b z 3 (lk b z (nng b) z (nng b) (runL b n (Nat.add z 1)))))) = true := h
    have big := OF_big
    obtain ⟨x0, h⟩ := lx_s hb hb2 (by omega) h
    obtain ⟨x1, h⟩ := lx_s hb hb2 (by omega) h
    obtain ⟨x2, h⟩ := lx_s hb hb2 (by omega) h
    obtain ⟨x3, h⟩ := lx_s hb hb2 (by omega) h
    obtain ⟨s0, h⟩ := lkn_s (by omega) h
    rw [dec_ng b (by omega)] at s0
    cases i with
    | zero =>
      refine ⟨fun k hk => ?_, s0⟩
      match k, hk with
      | 0, _ => exact x0
      | 1, _ => exact x1
      | 2, _ => exact x2
      | 3, _ => exact x3
    | succ i =>
      have := ih (z + 1) (by omega) h i (by omega)
      rw [show z + 1 + i = z + (i + 1) by omega] at this; exact this
theorem round0 (b : Nat) (e : Int) : p_shifted_round b 0 e = some (0, 0) := by
  unfold p_shifted_round
  rw [show p_size_of 0 = some 0 from rfl, Option.bind_some, if_pos (decide_eq_true (by omega))]
  rfl
theorem cut_x {P : Nat} {x : Int} (h1 : -(P : Int) ≤ x) (h2 : x ≤ P) : x = 0 ∨ ∃ i, i < P ∧ (x = ((1 + i : Nat) : Int) ∨ x = -((1 + i : Nat) : Int)) := by
  by_cases h : x = 0
  · exact .inl h
  · exact .inr ⟨x.natAbs - 1, by omega, by omega⟩
theorem cut_1 {P : Nat} {k : Int} (h1 : 0 ≤ k) (h2 : k < P * 2) : -(P : Int) ≤ k - P ∧ k - P ≤ P := by omega
theorem cut_2 {P : Nat} {k : Int} (h1 : 0 ≤ k) (h2 : k < 2 * P + 1) : -(P : Int) ≤ k - P ∧ k - P ≤ P := by omega
theorem links {b : Nat} (hb : 1 ≤ b) (hb2 : b ≤ 9) (h : runL b (2 ^ b) 1 = true) :
    (∀ k1 k2 : Int, 0 ≤ k1 → k1 < 1 * 2 ^ ((b : Int) + 1).toNat → 0 ≤ k2 → k2 < 4 → ∃ m e, InX b m e ∧ p_shifted_round b (k1 - 1 * 2 ^ (b : Int).toNat) (k2 - b + 1) = some (m, e)) ∧
    (∀ k : Int, 0 ≤ k → k < 2 * 2 ^ (b : Int).toNat + 1 → ∃ m e, InS b m e ∧ p_shifted_round b (k - 1 * 2 ^ (b : Int).toNat) (0 - b) = some (m, e)) := by
  have L := runL_s hb (Nat.le_trans hb2 (by decide)) (2 ^ b) 1 (Nat.le_trans (Nat.add_le_add_left (Nat.pow_le_pow_right (by decide) hb2) 1) (by decide)) h
  have cp : (2 : Int) ^ b = ((2 ^ b : Nat) : Int) := by rw [Int.natCast_pow]; rfl
  have tb : (b : Int).toNat = b := rfl
  rw [show ((b : Int) + 1).toNat = b + 1 from rfl, tb, Int.pow_succ, cp, Int.one_mul, Int.one_mul]
  unfold InS
  generalize 2 ^ b = P at *
  constructor
  · intro k1 k2 h1 h2 h3 h4
    obtain ⟨c1, c2⟩ := cut_1 h1 h2
    obtain ⟨k, rfl⟩ := Int.eq_ofNat_of_zero_le h3
    rcases cut_x c1 c2 with q | ⟨i, hi, q | q⟩ <;> rw [q]
    · exact ⟨_, _, .inl ⟨rfl, rfl⟩, round0 _ _⟩
    · obtain ⟨m, e, i1, _, r, _⟩ := (L i hi).1 k (Int.ofNat_lt.mp h4)
      exact ⟨_, _, i1, r⟩
    · obtain ⟨m, e, _, i2, _, r⟩ := (L i hi).1 k (Int.ofNat_lt.mp h4)
      exact ⟨_, _, i2, r⟩
  · intro k h1 h2
    obtain ⟨c1, c2⟩ := cut_2 h1 h2
    rw [Int.zero_sub]
    rcases cut_x c1 c2 with q | ⟨i, hi, q | q⟩ <;> rw [q]
    · exact ⟨_, _, .inl ⟨rfl, rfl⟩, round0 _ _⟩
    · obtain ⟨m, e, r0, r, _⟩ := (L i hi).2
      exact ⟨_, _, .inr ⟨1 + i, Nat.le_add_right _ _, Nat.add_comm 1 i ▸ hi, m, r0, .inl rfl⟩, r⟩
    · obtain ⟨m, e, r0, _, r⟩ := (L i hi).2
      exact ⟨_, _, .inr ⟨1 + i, Nat.le_add_right _ _, Nat.add_comm 1 i ▸ hi, m, r0, .inr rfl⟩, r⟩
theorem two_moved (b m e y : Int) : p_atan_two_real b m e 1 y = p_atan_two_real b m (e - y) 1 0 := by
  have h : p_ratio_of_reals m e 1 y = p_ratio_of_reals m (e - y) 1 0 := by unfold p_ratio_of_reals; rw [Int.sub_zero]; rfl
  unfold p_atan_two_real; rw [h]; rfl
theorem div_moved (b m e y : Int) : p_divide_reals b m e 1 y = p_divide_reals b m (e - y) 1 0 := by
  unfold p_divide_reals
  have : ∀ t : Int, t + e - y = t + (e - y) - 0 := fun t => by omega
  simp only [this]; rfl
theorem angles_eq {b m e y a c : Int} (h1 : p_atan_two_real b m (e - y) 1 0 = some (a, c)) (h2 : p_divide_reals b m (e - y) 1 0 = some (m, e - y)) (h3 : p_atan_real b m (e - y) = some (a, c)) (h4 : p_atan_two_real b (-m) (e - y) 1 0 = some (-a, c)) : p_law_are_angles b m e y = some true := by
  unfold p_law_are_angles
  simp only [two_moved b _ e y, div_moved b _ e y, h1, h2, h3, h4, same_refl, neg_eq, Option.bind_some, Bool.not_true, Bool.false_eq_true, if_false]
theorem angles_zero {b : Nat} {c0 y : Int} (Z : ZFact b c0) : p_law_are_angles b 0 0 y = some true := by
  have h1 : ∀ e, p_atan_two_real b 0 e 1 y = some (0, 0) := fun e => by unfold p_atan_two_real; rfl
  have h2 : p_divide_reals b 0 0 1 y = some (0, 0) := by unfold p_divide_reals; rfl
  unfold p_law_are_angles
  rw [h1, Option.bind_some]
  dsimp only
  rw [h2, Option.bind_some]
  dsimp only
  rw [Z.at', Option.bind_some]
  dsimp only
  rw [same_refl, Option.bind_some, neg_eq, Option.bind_some]
  dsimp only
  rw [Int.neg_zero, h1]
  rfl
noncomputable def YAll (b : Nat) : Prop := ∀ i, i < 2 ^ (b - 1) → runE b (1 + 2 * i) 60 (nng (b + 2)) = true
theorem runY_app {b n n' t : Nat} (h : runY b n t = true) (h' : runY b n' (t + 2 * n) = true) : runY b (n + n') t = true := by
  induction n generalizing t with
  | zero => rw [Nat.zero_add]; exact h'
  | succ n ih =>
    obtain ⟨h1, h⟩ := ck_s (show ck (runE b t 60 (nng (Nat.add b 2))) (runY b n (Nat.add t 2)) = true from h)
    rw [Nat.succ_add n n']
    have := ih (t := t + 2) h (by rw [Nat.add_assoc, Nat.add_comm 2]; exact h')
    show ck (runE b t 60 (nng (Nat.add b 2))) (runY b (n + n') (Nat.add t 2)) = true
    rw [h1]; exact this
theorem runY_to {b n n' t N t' : Nat} (hn : n + n' = N) (ht : t + 2 * n = t') (h : runY b n t = true) (h' : runY b n' t' = true) : runY b N t = true := by
  subst hn ht; exact runY_app h h'
theorem yall_of {b N : Nat} (hN : N = 2 ^ (b - 1)) (h : runY b N 1 = true) : YAll b := by
  subst hN; exact fun i hi => runY_s _ 1 h i hi
theorem yf1 {m P : Nat} (ho : m % 2 = 1) (hm : m ≤ P * 2) : m / 2 < P ∧ 1 + 2 * (m / 2) = m := by omega
theorem yf2 {b O : Nat} {e y : Int} (big : 1000000 ≤ O) (hb2 : b ≤ 9) (h0 : 0 ≤ e - y + b + 2) : (((O - (b + 2) + (e - y + b + 2).toNat : Nat) : Int) - O = e - y) ∧ O ≤ O - (b + 2) + 40 ∧ O - (b + 2) + (e - y + b + 2).toNat + 40 - O = (e - y + 40).toNat := by
  obtain ⟨n, hn⟩ := Int.eq_ofNat_of_zero_le h0
  obtain ⟨c, rfl⟩ : ∃ c, O = c + (b + 2) := ⟨O - (b + 2), (Nat.sub_add_cancel (Nat.le_trans (Nat.add_le_add_right hb2 2) (Nat.le_trans (by decide) big))).symm⟩
  rw [hn, Nat.add_sub_cancel, Int.toNat_natCast, Nat.add_assoc c n 40, Nat.add_sub_add_left]
  clear h0 big
  refine ⟨?_, Nat.add_le_add_left (Nat.le_trans (Nat.add_le_add_right hb2 2) (by decide)) c, ?_⟩
  · rw [show e - y = (n : Int) - b - 2 by omega]; omega
  · rw [show e - y + 40 = (n : Int) + 40 - (b + 2 : Nat) by omega]; omega
theorem yf3 {e y : Int} (h : -3 ≤ y) : (e - y + 40).toNat ≤ (e + 40).toNat + 3 := by omega
theorem y_fact {b : Nat} (hb : 1 ≤ b) (hb2 : b ≤ 9) (Y : YAll b) {m : Nat} {e y : Int} (ho : m % 2 = 1) (hm : m ≤ 2 ^ b) (he : 1 - (b : Int) ≤ e) (ht : m * 2 ^ (e + 40).toNat ≤ 2 ^ 44) (h1 : -3 ≤ y) (h2 : y ≤ 3) : YFact b (m : Int) (e - y) := by
  obtain ⟨b, rfl⟩ : ∃ c, b = c + 1 := ⟨b - 1, (Nat.sub_add_cancel hb).symm⟩
  obtain ⟨g1, g2⟩ := yf1 ho (show m ≤ 2 ^ b * 2 from Nat.pow_succ 2 b ▸ hm)
  have h := Y (m / 2) g1
  rw [g2] at h
  obtain ⟨k1, k2, k3⟩ := yf2 (b := b + 1) (O := OF) (e := e) (y := y) OF_big hb2 (by clear ht hm h Y ho g1 g2; omega)
  have hO : m ≤ OF := Nat.le_trans hm (Nat.le_trans (Nat.pow_le_pow_right (by decide) hb2) (Nat.le_trans (by decide) OF_big))
  have := runE_s hO (Nat.pos_of_ne_zero fun q => by rw [q] at ho; cases ho) 60 (nng (b + 1 + 2)) h (e - y + (b + 1 : Nat) + 2).toNat (by
    show m * 2 ^ (OF - (b + 1 + 2) + (e - y + (b + 1 : Nat) + 2).toNat + 40 - OF) ≤ 2 ^ 47
    rw [k3]
    refine Nat.le_trans (Nat.mul_le_mul_left _ (Nat.pow_le_pow_right (by decide) (yf3 h1))) ?_
    rw [Nat.pow_add, ← Nat.mul_assoc]
    exact Nat.le_trans (Nat.mul_le_mul_right _ ht) (by decide)) k2
  exact k1 ▸ this
section
variable {C : Cx} {b : Nat} {f : Nat → C5} {g : Nat → C4} {c : Nat}
theorem angles_law (H : C.All) (hb : 1 ≤ b) (hb2 : b ≤ 9) (Z : ZFact b (dec c)) (Y : YAll b) {m e τ y : Int} (E : El b f m e τ) (h1 : -3 ≤ y) (h2 : y ≤ 3) : Spec C 15 "_law_are_angles" [.int b, .real m e, .int y] (fun v => v = .bool true) := by
  refine t_law_are_angles H (_, (_, _), _) true ?_
  rcases E with ⟨rfl, rfl, rfl⟩ | ⟨t, m2, _, _, X, hm⟩
  · exact angles_zero Z
  · have p := X.pos
    have F := y_fact hb hb2 Y X.odd X.le X.elo X.top h1 h2
    rw [show ((m2.toNat : Nat) : Int) = m2 by omega] at F
    obtain ⟨a, d, q1, q2, q3, q4⟩ := F.at'
    rcases hm with ⟨_, rfl⟩ | ⟨_, rfl⟩
    · exact angles_eq q3 F.dv q1 q4
    · refine angles_eq q4 F.dv' q2 ?_
      rw [Int.neg_neg, Int.neg_neg]; exact q3
theorem facts_of (H : C.All) (hb : 2 ≤ b) (hb2 : b ≤ 9) (S : ∃ f, Seq b f) (T : ∃ g, SeqS b g c) (z : ckz b c = true) (Y : YAll b) (L : runL b (2 ^ b) 1 = true) : LawFacts C 18 b := by
  obtain ⟨f, S⟩ := S
  obtain ⟨g, T⟩ := T
  have Z := ckz_s z
  have L := links (by omega) hb2 L
  refine ⟨by omega, by omega, ⟨InX b, InS b, L.1, L.2, ?_, ?_, ?_, ?_⟩, ?_⟩
  · intro m e m' e' hx hs
    obtain ⟨τ, E⟩ := el_of S hx
    obtain ⟨σ, G⟩ := els_of T hs
    exact (odd_law H S T Z E G).up (by decide)
  · intro m e m' e' u f' u' f'' hx hy hs hl
    obtain ⟨τ, E⟩ := el_of S hx
    obtain ⟨τ', E'⟩ := el_of S hy
    obtain ⟨σ, G⟩ := els_of T hs
    obtain ⟨σ', G'⟩ := els_of T hl
    exact (ordered_law H S T Z E E' G G').up (by decide)
  · intro m e m' e' hx hs
    obtain ⟨τ, E⟩ := el_of S hx
    obtain ⟨σ, G⟩ := els_of T hs
    exact (bound_law H S T Z E G).up (by decide)
  · intro m e k hx h0 h1
    obtain ⟨τ, E⟩ := el_of S hx
    exact (angles_law H (by omega) hb2 Z Y E (by omega) (by omega)).up (by decide)
  · intro h m e m' e' hh
    simp only [List.mem_cons, List.not_mem_nil, or_false, Prod.mk.injEq] at hh
    rcases hh with ⟨rfl, rfl, rfl, rfl, rfl⟩ | ⟨rfl, rfl, rfl, rfl, rfl⟩ | ⟨rfl, rfl, rfl, rfl, rfl⟩ | ⟨rfl, rfl, rfl, rfl, rfl⟩ | ⟨rfl, rfl, rfl, rfl, rfl⟩ | ⟨rfl, rfl, rfl, rfl, rfl⟩
    · exact ⟨_, _, (t_exp_real H (_, (_, _)) _ Z.ex).up (by decide), same_refl _ _⟩
    · exact ⟨_, _, (t_log_real H (_, (_, _)) _ Z.lg).up (by decide), same_refl _ _⟩
    · exact ⟨_, _, (t_sin_real H (_, (_, _)) _ Z.sn).up (by decide), same_refl _ _⟩
    · exact ⟨_, _, (t_cos_real H (_, (_, _)) _ Z.cs).up (by decide), same_refl _ _⟩
    · exact ⟨_, _, (t_atan_real H (_, (_, _)) _ Z.at').up (by decide), same_refl _ _⟩
    · exact ⟨_, _, (t_acos_real H (_, (_, _)) _ Z.ac1).up (by decide), same_refl _ _⟩
end
end Mine
end
section
namespace Mine
noncomputable def kx2x0 : C5 := ⟨1606938044258990275541962092341162602522202993782792835301376, 1606938044258990275542302374708083540985666368390224603512832, 1606938044258990275542302374708083540985666368390224603512832, 1606938044258990275541962092341162602522202993782792835301376, 0⟩
noncomputable def kx2x1 : C5 := ⟨1606938044258990275547406610211897617937616987501701126684672, 1606938044258993130037347504260924719094141892773065600794624, 1606938044258990275541962092381727421729506334630687337873408, 1606938044258990275542472515891544010217398055693940487618560, 1606938044258990275542982939441925417912593117605088139935744⟩
theorem cx2x0 : Chain 2 10 1 kx2x0 kx2x1 := chunk_x (by decide) (by decide) (by decide +kernel)
theorem seq2 : ∃ f, Seq 2 f := by
  obtain ⟨f, h0, h⟩ := Chain.seq cx2x0
  exact ⟨f, h0, h⟩
noncomputable def ks2x0 : C4 := ⟨1606938044258990275541962092341162602522202993782792835301376, 1606938044258990275541962092341162602522202993782792835301376, 1606938044258990275542472515891544010217398055693940487618560, 1606938044258990275542472515891544010217398055693940487618560⟩
noncomputable def ks2x1 : C4 := ⟨1606938044258990275542302374708083540985666368390224603512832, 1606938044258990275542472515891544010217398055693940487618560, 1606938044258990275541962092341162602522202993782792835301376, 1606938044258990275542982939441925417912593117605088139935744⟩
theorem cs2x0 : ChainS 2 4 1 ks2x0 ks2x1 := chunk_s (by decide) (by decide +kernel)
theorem seqs2 : ∃ f, SeqS 2 f 1606938044258990275542472515891544010217398055693940487618560 := by
  obtain ⟨f, h0, h⟩ := ChainS.seq cs2x0
  exact ⟨f, h0, h⟩
theorem cy2x0 : runY 2 2 1 = true := by decide +kernel
theorem ally2 : YAll 2 := yall_of rfl cy2x0
theorem facts2 {C : Cx} (H : C.All) : LawFacts C 18 ((2 : Nat) : Int) := facts_of H (by decide) (by decide) seq2 seqs2 (by decide +kernel) ally2 (by decide +kernel)
end Mine
end
section
namespace Mine
noncomputable def kx3x0 : C5 := ⟨1606938044258990275541962092341162602522202993782792835301376, 1606938044258990275542302374708083540985666368390224603512832, 1606938044258990275542302374708083540985666368390224603512832, 1606938044258990275541962092341162602522202993782792835301376, 0⟩
noncomputable def kx3x1 : C5 := ⟨1606938044258990275547406610211897617937616987501701126684672, 1606938044258993130037347504260924719094141892773065600794624, 1606938044258990275541962092381727421729506334630687337873408, 1606938044258990275542472515891544010217398055693940487618560, 1606938044258990275542982939441925417912593117605088139935744⟩
theorem cx3x0 : Chain 3 20 1 kx3x0 kx3x1 := chunk_x (by decide) (by decide) (by decide +kernel)
theorem seq3 : ∃ f, Seq 3 f := by
  obtain ⟨f, h0, h⟩ := Chain.seq cx3x0
  exact ⟨f, h0, h⟩
noncomputable def ks3x0 : C4 := ⟨1606938044258990275541962092341162602522202993782792835301376, 1606938044258990275541962092341162602522202993782792835301376, 1606938044258990275542472515891544010217398055693940487618560, 1606938044258990275542472515891544010217398055693940487618560⟩
noncomputable def ks3x1 : C4 := ⟨1606938044258990275542302374708083540985666368390224603512832, 1606938044258990275542472515891544010217398055693940487618560, 1606938044258990275541962092341162602522202993782792835301376, 1606938044258990275542982939441925417912593117605088139935744⟩
theorem cs3x0 : ChainS 3 8 1 ks3x0 ks3x1 := chunk_s (by decide) (by decide +kernel)
theorem seqs3 : ∃ f, SeqS 3 f 1606938044258990275542472515891544010217398055693940487618560 := by
  obtain ⟨f, h0, h⟩ := ChainS.seq cs3x0
  exact ⟨f, h0, h⟩
theorem cy3x0 : runY 3 4 1 = true := by decide +kernel
theorem ally3 : YAll 3 := yall_of rfl cy3x0
theorem facts3 {C : Cx} (H : C.All) : LawFacts C 18 ((3 : Nat) : Int) := facts_of H (by decide) (by decide) seq3 seqs3 (by decide +kernel) ally3 (by decide +kernel)
end Mine
end
section
namespace Mine
noncomputable def kx4x0 : C5 := ⟨1606938044258990275541962092341162602522202993782792835301376, 1606938044258990275542302374708083540985666368390224603512832, 1606938044258990275542302374708083540985666368390224603512832, 1606938044258990275541962092341162602522202993782792835301376, 0⟩
noncomputable def kx4x1 : C5 := ⟨1606938044258990275547406610211897617937616987501701126684672, 1606938044258993130037347504260924719094141892773065600794624, 1606938044258990275541962092379192120529049875827693931462656, 1606938044258990275542472515891544010217398055693940487618560, 1606938044258990275542897868850195183296727273953230197882880⟩
theorem cx4x0 : Chain 4 40 1 kx4x0 kx4x1 := chunk_x (by decide) (by decide) (by decide +kernel)
theorem seq4 : ∃ f, Seq 4 f := by
  obtain ⟨f, h0, h⟩ := Chain.seq cx4x0
  exact ⟨f, h0, h⟩
noncomputable def ks4x0 : C4 := ⟨1606938044258990275541962092341162602522202993782792835301376, 1606938044258990275541962092341162602522202993782792835301376, 1606938044258990275542515051187409127525330977519869458644992, 1606938044258990275542515051187409127525330977519869458644992⟩
noncomputable def ks4x1 : C4 := ⟨1606938044258990275542302374708083540985666368390224603512832, 1606938044258990275542515051187409127525330977519869458644992, 1606938044258990275541962092341162602522202993782792835301376, 1606938044258990275543068010033655652528458961256946081988608⟩
theorem cs4x0 : ChainS 4 16 1 ks4x0 ks4x1 := chunk_s (by decide) (by decide +kernel)
theorem seqs4 : ∃ f, SeqS 4 f 1606938044258990275542515051187409127525330977519869458644992 := by
  obtain ⟨f, h0, h⟩ := ChainS.seq cs4x0
  exact ⟨f, h0, h⟩
theorem cy4x0 : runY 4 8 1 = true := by decide +kernel
theorem ally4 : YAll 4 := yall_of rfl cy4x0
theorem facts4 {C : Cx} (H : C.All) : LawFacts C 18 ((4 : Nat) : Int) := facts_of H (by decide) (by decide) seq4 seqs4 (by decide +kernel) ally4 (by decide +kernel)
end Mine
end
section
namespace Mine
noncomputable def kx5x0 : C5 := ⟨1606938044258990275541962092341162602522202993782792835301376, 1606938044258990275542302374708083540985666368390224603512832, 1606938044258990275542302374708083540985666368390224603512832, 1606938044258990275541962092341162602522202993782792835301376, 0⟩
noncomputable def kx5x1 : C5 := ⟨1606938044258990275542982939441925417912593117605088139935744, 1606938044258990275548767739679581371791470485931428199530496, 1606938044258990275541978707691109913970614291371046339608576, 1606938044258990275542387445299813775601532212042082545565696, 1606938044258990275542344910003948658293599290216153574539264⟩
noncomputable def kx5x2 : C5 := ⟨1606938044258990275547406610211897617937616987501701126684672, 1606938044258993308443309092505909851379888073959957648637952, 1606938044258990275541962092379192120529049875827693931462656, 1606938044258990275542472515891544010217398055693940487618560, 1606938044258990275542897868850195183296727273953230197882880⟩
theorem cx5x0 : Chain 5 40 1 kx5x0 kx5x1 := chunk_x (by decide) (by decide) (by decide +kernel)
theorem cx5x1 : Chain 5 40 41 kx5x1 kx5x2 := chunk_x (by decide) (by decide) (by decide +kernel)
theorem seq5 : ∃ f, Seq 5 f := by
  obtain ⟨f, h0, h⟩ := Chain.seq (cx5x0.app cx5x1)
  exact ⟨f, h0, h⟩
noncomputable def ks5x0 : C4 := ⟨1606938044258990275541962092341162602522202993782792835301376, 1606938044258990275541962092341162602522202993782792835301376, 1606938044258990275542493783539476568871364516606904973131776, 1606938044258990275542493783539476568871364516606904973131776⟩
noncomputable def ks5x1 : C4 := ⟨1606938044258990275542302374708083540985666368390224603512832, 1606938044258990275542493783539476568871364516606904973131776, 1606938044258990275541962092341162602522202993782792835301376, 1606938044258990275543025474737790535220526039431017110962176⟩
theorem cs5x0 : ChainS 5 32 1 ks5x0 ks5x1 := chunk_s (by decide) (by decide +kernel)
theorem seqs5 : ∃ f, SeqS 5 f 1606938044258990275542493783539476568871364516606904973131776 := by
  obtain ⟨f, h0, h⟩ := ChainS.seq cs5x0
  exact ⟨f, h0, h⟩
theorem cy5x0 : runY 5 16 1 = true := by decide +kernel
theorem ally5 : YAll 5 := yall_of rfl cy5x0
theorem facts5 {C : Cx} (H : C.All) : LawFacts C 18 ((5 : Nat) : Int) := facts_of H (by decide) (by decide) seq5 seqs5 (by decide +kernel) ally5 (by decide +kernel)
end Mine
end
section
namespace Mine
noncomputable def kx6x0 : C5 := ⟨1606938044258990275541962092341162602522202993782792835301376, 1606938044258990275542302374708083540985666368390224603512832, 1606938044258990275542302374708083540985666368390224603512832, 1606938044258990275541962092341162602522202993782792835301376, 0⟩
noncomputable def kx6x1 : C5 := ⟨1606938044258990275542387445299813775601532212042082545565696, 1606938044258990275543153080625385887144324804908804024041472, 1606938044258990275542060455212850686296797875505253580800000, 1606938044258990275542265156324201563341225061792536753864704, 1606938044258990275542037858336922342726958510785228814942208⟩
noncomputable def kx6x2 : C5 := ⟨1606938044258990275542982939441925417912593117605088139935744, 1606938044258990275548767739679581371791470485931428199530496, 1606938044258990275541979039998108860199582517322811409694720, 1606938044258990275542387445299813775601532212042082545565696, 1606938044258990275542334276179982378966616059759671331782656⟩
noncomputable def kx6x3 : C5 := ⟨1606938044258990275544344068909609171766446616034815212781568, 1606938044258990275912189307551143650770354566668556649365504, 1606938044258990275541962403878974114611860705612572588507136, 1606938044258990275542451248243611451563431594780976002105344, 1606938044258990275542621389427071920795163282084691886211072⟩
noncomputable def kx6x4 : C5 := ⟨1606938044258990275547406610211897617937616987501701126684672, 1606938044258993308443309092505909851379888073959957648637952, 1606938044258990275541962092379192120529049875827693931462656, 1606938044258990275542472515891544010217398055693940487618560, 1606938044258990275542897868850195183296727273953230197882880⟩
theorem cx6x0 : Chain 6 40 1 kx6x0 kx6x1 := chunk_x (by decide) (by decide) (by decide +kernel)
theorem cx6x1 : Chain 6 40 41 kx6x1 kx6x2 := chunk_x (by decide) (by decide) (by decide +kernel)
theorem cx6x2 : Chain 6 40 81 kx6x2 kx6x3 := chunk_x (by decide) (by decide) (by decide +kernel)
theorem cx6x3 : Chain 6 40 121 kx6x3 kx6x4 := chunk_x (by decide) (by decide) (by decide +kernel)
theorem seq6 : ∃ f, Seq 6 f := by
  obtain ⟨f, h0, h⟩ := Chain.seq (((cx6x0.app cx6x1).app cx6x2).app cx6x3)
  exact ⟨f, h0, h⟩
noncomputable def ks6x0 : C4 := ⟨1606938044258990275541962092341162602522202993782792835301376, 1606938044258990275541962092341162602522202993782792835301376, 1606938044258990275542493783539476568871364516606904973131776, 1606938044258990275542493783539476568871364516606904973131776⟩
noncomputable def ks6x1 : C4 := ⟨1606938044258990275542174768820488189061867602912437690433536, 1606938044258990275542190719556437608052342448597161054568448, 1606938044258990275542265156324201563341225061792536753864704, 1606938044258990275542727727666734714064995586649514313777152⟩
noncomputable def ks6x2 : C4 := ⟨1606938044258990275542302374708083540985666368390224603512832, 1606938044258990275542493783539476568871364516606904973131776, 1606938044258990275541962092341162602522202993782792835301376, 1606938044258990275543025474737790535220526039431017110962176⟩
theorem cs6x0 : ChainS 6 40 1 ks6x0 ks6x1 := chunk_s (by decide) (by decide +kernel)
theorem cs6x1 : ChainS 6 24 41 ks6x1 ks6x2 := chunk_s (by decide) (by decide +kernel)
theorem seqs6 : ∃ f, SeqS 6 f 1606938044258990275542493783539476568871364516606904973131776 := by
  obtain ⟨f, h0, h⟩ := ChainS.seq (cs6x0.app cs6x1)
  exact ⟨f, h0, h⟩
theorem cy6x0 : runY 6 16 1 = true := by decide +kernel
theorem cy6x1 : runY 6 16 33 = true := by decide +kernel
theorem ally6 : YAll 6 := yall_of rfl (runY_to (N := 32) rfl rfl cy6x0 cy6x1)
theorem facts6 {C : Cx} (H : C.All) : LawFacts C 18 ((6 : Nat) : Int) := facts_of H (by decide) (by decide) seq6 seqs6 (by decide +kernel) ally6 (by decide +kernel)
end Mine
end
section
namespace Mine
noncomputable def kx7x0 : C5 := ⟨1606938044258990275541962092341162602522202993782792835301376, 1606938044258990275542302374708083540985666368390224603512832, 1606938044258990275542302374708083540985666368390224603512832, 1606938044258990275541962092341162602522202993782792835301376, 0⟩
noncomputable def kx7x1 : C5 := ⟨1606938044258990275542174768820488189061867602912437690433536, 1606938044258990275542600121779139362141196821171727400697856, 1606938044258990275542145525804580920912663719157111522852864, 1606938044258990275542153501172555630407901141999473204920320, 1606938044258990275541802584981668412617454536935559193952256⟩
noncomputable def kx7x2 : C5 := ⟨1606938044258990275542387445299813775601532212042082545565696, 1606938044258990275543153080625385887144324804908804024041472, 1606938044258990275542059125984854901380924971698193300455424, 1606938044258990275542267814780193133172970869406657314553856, 1606938044258990275542037858336922342726958510785228814942208⟩
noncomputable def kx7x3 : C5 := ⟨1606938044258990275542600121779139362141196821171727400697856, 1606938044258990275544173927726148702534714928731099328675840, 1606938044258990275542014596846996106699182694161673908912128, 1606938044258990275542328959267999239303124444531430210404352, 1606938044258990275542174768820488189061867602912437690433536⟩
noncomputable def kx7x4 : C5 := ⟨1606938044258990275542982939441925417912593117605088139935744, 1606938044258990275548767739679581371791470485931428199530496, 1606938044258990275541979039998108860199582517322811409694720, 1606938044258990275542387445299813775601532212042082545565696, 1606938044258990275542334276179982378966616059759671331782656⟩
noncomputable def kx7x5 : C5 := ⟨1606938044258990275543493362992306825607788179516235792252928, 1606938044258990275572587505364047064233906708451651974332416, 1606938044258990275541965872333275615876716563984120507531264, 1606938044258990275542424663683695753245973518639770395213824, 1606938044258990275542472515891544010217398055693940487618560⟩
noncomputable def kx7x6 : C5 := ⟨1606938044258990275544344068909609171766446616034815212781568, 1606938044258990275917633825421878666185768560387464940748800, 1606938044258990275541962403878974114611860705612572588507136, 1606938044258990275542445931331628311899939979552734880727040, 1606938044258990275542626706339055060458654897312933007589376⟩
noncomputable def kx7x7 : C5 := ⟨1606938044258990275545705198377292925620300114464542285627392, 1606938044258990295926237000373060317832195477375435774361600, 1606938044258990275541962098020237291544670712488023195385856, 1606938044258990275542467198979560870553906440465699366240256, 1606938044258990275542780896786566110699911738931925527560192⟩
noncomputable def kx7x8 : C5 := ⟨1606938044258990275547406610211897617937616987501701126684672, 1606938044258993308443309092505909851379888073959957648637952, 1606938044258990275541962092379509033179106933178068107264000, 1606938044258990275542477832803527149880889670922181608996864, 1606938044258990275542908502674161462623710504409712440639488⟩
theorem cx7x0 : Chain 7 40 1 kx7x0 kx7x1 := chunk_x (by decide) (by decide) (by decide +kernel)
theorem cx7x1 : Chain 7 40 41 kx7x1 kx7x2 := chunk_x (by decide) (by decide) (by decide +kernel)
theorem cx7x2 : Chain 7 40 81 kx7x2 kx7x3 := chunk_x (by decide) (by decide) (by decide +kernel)
theorem cx7x3 : Chain 7 40 121 kx7x3 kx7x4 := chunk_x (by decide) (by decide) (by decide +kernel)
theorem cx7x4 : Chain 7 40 161 kx7x4 kx7x5 := chunk_x (by decide) (by decide) (by decide +kernel)
theorem cx7x5 : Chain 7 40 201 kx7x5 kx7x6 := chunk_x (by decide) (by decide) (by decide +kernel)
theorem cx7x6 : Chain 7 40 241 kx7x6 kx7x7 := chunk_x (by decide) (by decide) (by decide +kernel)
theorem cx7x7 : Chain 7 40 281 kx7x7 kx7x8 := chunk_x (by decide) (by decide) (by decide +kernel)
theorem seq7 : ∃ f, Seq 7 f := by
  obtain ⟨f, h0, h⟩ := Chain.seq (((((((cx7x0.app cx7x1).app cx7x2).app cx7x3).app cx7x4).app cx7x5).app cx7x6).app cx7x7)
  exact ⟨f, h0, h⟩
noncomputable def ks7x0 : C4 := ⟨1606938044258990275541962092341162602522202993782792835301376, 1606938044258990275541962092341162602522202993782792835301376, 1606938044258990275542499100451459708534856131835146094510080, 1606938044258990275542499100451459708534856131835146094510080⟩
noncomputable def ks7x1 : C4 := ⟨1606938044258990275542068430580825395792035298347615262867456, 1606938044258990275542069759808821180707908202154675543212032, 1606938044258990275542387445299813775601532212042082545565696, 1606938044258990275542605438691122501804688436399968522076160⟩
noncomputable def ks7x2 : C4 := ⟨1606938044258990275542174768820488189061867602912437690433536, 1606938044258990275542190719556437608052342448597161054568448, 1606938044258990275542267814780193133172970869406657314553856, 1606938044258990275542727727666734714064995586649514313777152⟩
noncomputable def ks7x3 : C4 := ⟨1606938044258990275542281107060150982331699907477260117999616, 1606938044258990275542376811475847496274548981585600302809088, 1606938044258990275542083052088779029866637240225278346657792, 1606938044258990275542908502674161462623710504409712440639488⟩
noncomputable def ks7x4 : C4 := ⟨1606938044258990275542302374708083540985666368390224603512832, 1606938044258990275542499100451459708534856131835146094510080, 1606938044258990275541962092341162602522202993782792835301376, 1606938044258990275543036108561756814547509269887499353718784⟩
theorem cs7x0 : ChainS 7 40 1 ks7x0 ks7x1 := chunk_s (by decide) (by decide +kernel)
theorem cs7x1 : ChainS 7 40 41 ks7x1 ks7x2 := chunk_s (by decide) (by decide +kernel)
theorem cs7x2 : ChainS 7 40 81 ks7x2 ks7x3 := chunk_s (by decide) (by decide +kernel)
theorem cs7x3 : ChainS 7 8 121 ks7x3 ks7x4 := chunk_s (by decide) (by decide +kernel)
theorem seqs7 : ∃ f, SeqS 7 f 1606938044258990275542499100451459708534856131835146094510080 := by
  obtain ⟨f, h0, h⟩ := ChainS.seq (((cs7x0.app cs7x1).app cs7x2).app cs7x3)
  exact ⟨f, h0, h⟩
theorem cy7x0 : runY 7 16 1 = true := by decide +kernel
theorem cy7x1 : runY 7 16 33 = true := by decide +kernel
theorem cy7x2 : runY 7 16 65 = true := by decide +kernel
theorem cy7x3 : runY 7 16 97 = true := by decide +kernel
theorem ally7 : YAll 7 := yall_of rfl (runY_to (N := 64) rfl rfl (runY_to (N := 48) rfl rfl (runY_to (N := 32) rfl rfl cy7x0 cy7x1) cy7x2) cy7x3)
theorem facts7 {C : Cx} (H : C.All) : LawFacts C 18 ((7 : Nat) : Int) := facts_of H (by decide) (by decide) seq7 seqs7 (by decide +kernel) ally7 (by decide +kernel)
end Mine
end
section
namespace Mine
noncomputable def kx8x0 : C5 := ⟨1606938044258990275541962092341162602522202993782792835301376, 1606938044258990275542302374708083540985666368390224603512832, 1606938044258990275542302374708083540985666368390224603512832, 1606938044258990275541962092341162602522202993782792835301376, 0⟩
noncomputable def kx8x1 : C5 := ⟨1606938044258990275542068430580825395792035298347615262867456, 1606938044258990275542427322139687323077719326253890955902976, 1606938044258990275542210657976374381790436005703065259737088, 1606938044258990275542065107510835933502353038829964562006016, 1606938044258990275541565982398418697592077659278829292617728⟩
noncomputable def kx8x2 : C5 := ⟨1606938044258990275542174768820488189061867602912437690433536, 1606938044258990275542597463323147792309451013557606840008704, 1606938044258990275542144196576585135996790815350051242508288, 1606938044258990275542152171944559845492028238192412924575744, 1606938044258990275541801920367670520159518085032029053779968⟩
noncomputable def kx8x3 : C5 := ⟨1606938044258990275542281107060150982331699907477260117999616, 1606938044258990275542828748994414367671336275986095619964928, 1606938044258990275542095679754738986567429826392351009931264, 1606938044258990275542218633344349091285673428545426941804544, 1606938044258990275541940160079232151410300080966298209615872⟩
noncomputable def kx8x4 : C5 := ⟨1606938044258990275542387445299813775601532212042082545565696, 1606938044258990275543147763713402747480833189680562902663168, 1606938044258990275542059790598852793838861423601723440627712, 1606938044258990275542266485552197348257097965599597034209280, 1606938044258990275542037858336922342726958510785228814942208⟩
noncomputable def kx8x5 : C5 := ⟨1606938044258990275542493783539476568871364516606904973131776, 1606938044258990275543589067408003339550637253624575977062400, 1606938044258990275542033538345936041750371573412282903822336, 1606938044258990275542302374708083540985666368390224603512832, 1606938044258990275542113624332682082931714027787664794583040⟩
noncomputable def kx8x6 : C5 := ⟨1606938044258990275542600121779139362141196821171727400697856, 1606938044258990275544184561550114981861698159187581571432448, 1606938044258990275542014264539997160470214468209908838825984, 1606938044258990275542328959267999239303124444531430210404352, 1606938044258990275542176098048483973977740506719497970778112⟩
noncomputable def kx8x7 : C5 := ⟨1606938044258990275542770262962599831372928508475443284803584, 1606938044258990275545620127785562691004434270812684343574528, 1606938044258990275541993661506062494274184459200474493485056, 1606938044258990275542360860739898077284074135900876938674176, 1606938044258990275542255851728231068930114735143114791452672⟩
noncomputable def kx8x8 : C5 := ⟨1606938044258990275542982939441925417912593117605088139935744, 1606938044258990275548810274975446489099403407757357170556928, 1606938044258990275541979039998108860199582517322811409694720, 1606938044258990275542387445299813775601532212042082545565696, 1606938044258990275542336934635973948798361867373791892471808⟩
noncomputable def kx8x9 : C5 := ⟨1606938044258990275543195615921251004452257726734732995067904, 1606938044258990275554722681100697794902079541561484143230976, 1606938044258990275541971147706883887261587150968390995148800, 1606938044258990275542406054491754764423752865340926470389760, 1606938044258990275542400737579771624760261250112685349011456⟩
noncomputable def kx8x10 : C5 := ⟨1606938044258990275543493362992306825607788179516235792252928, 1606938044258990275572587505364047064233906708451651974332416, 1606938044258990275541965872333275615876716563984120507531264, 1606938044258990275542422005227704183414227711025649834524672, 1606938044258990275542475174347535580049143863308061048307712⟩
noncomputable def kx8x11 : C5 := ⟨1606938044258990275543918715950957998687117397775525502517248, 1606938044258990275648810755554337280049702620516368053698560, 1606938044258990275541963177531206036301177356656525642301440, 1606938044258990275542437955963653602404702556710373198659584, 1606938044258990275542557586483274244833263899345798429671424⟩
noncomputable def kx8x12 : C5 := ⟨1606938044258990275544344068909609171766446616034815212781568, 1606938044258990275914911566486511158478061563528010795057152, 1606938044258990275541962402580899899978153798479948506202112, 1606938044258990275542448589787619881731685787166855441416192, 1606938044258990275542624047883063490626909089698812446900224⟩
noncomputable def kx8x13 : C5 := ⟨1606938044258990275544854492459990579461641677945962865098752, 1606938044258990277218873596527547350469713059206546581356544, 1606938044258990275541962161463614531767095798595025218043904, 1606938044258990275542456565155594591226923210009217123483648, 1606938044258990275542690509282852736420554280051826464129024⟩
noncomputable def kx8x14 : C5 := ⟨1606938044258990275545705198377292925620300114464542285627392, 1606938044258990295926237000373060317832195477375435774361600, 1606938044258990275541962098020237291544670712488023195385856, 1606938044258990275542464540523569300722160632851578805551104, 1606938044258990275542775579874582971036420123703684406181888⟩
noncomputable def kx8x15 : C5 := ⟨1606938044258990275546555904294595271778958550983121706156032, 1606938044258990523637752425994345052107068776995814589333504, 1606938044258990275541962092807658023406191413533579614879744, 1606938044258990275542472515891544010217398055693940487618560, 1606938044258990275542850016642346926325302736899060105478144⟩
noncomputable def kx8x16 : C5 := ⟨1606938044258990275547406610211897617937616987501701126684672, 1606938044258993308443309092505909851379888073959957648637952, 1606938044258990275541962092379509033179106933178068107264000, 1606938044258990275542475174347535580049143863308061048307712, 1606938044258990275542903185762178322960218889181471319261184⟩
theorem cx8x0 : Chain 8 40 1 kx8x0 kx8x1 := chunk_x (by decide) (by decide) (by decide +kernel)
theorem cx8x1 : Chain 8 40 41 kx8x1 kx8x2 := chunk_x (by decide) (by decide) (by decide +kernel)
theorem cx8x2 : Chain 8 40 81 kx8x2 kx8x3 := chunk_x (by decide) (by decide) (by decide +kernel)
theorem cx8x3 : Chain 8 40 121 kx8x3 kx8x4 := chunk_x (by decide) (by decide) (by decide +kernel)
theorem cx8x4 : Chain 8 40 161 kx8x4 kx8x5 := chunk_x (by decide) (by decide) (by decide +kernel)
theorem cx8x5 : Chain 8 40 201 kx8x5 kx8x6 := chunk_x (by decide) (by decide) (by decide +kernel)
theorem cx8x6 : Chain 8 40 241 kx8x6 kx8x7 := chunk_x (by decide) (by decide) (by decide +kernel)
theorem cx8x7 : Chain 8 40 281 kx8x7 kx8x8 := chunk_x (by decide) (by decide) (by decide +kernel)
theorem cx8x8 : Chain 8 40 321 kx8x8 kx8x9 := chunk_x (by decide) (by decide) (by decide +kernel)
theorem cx8x9 : Chain 8 40 361 kx8x9 kx8x10 := chunk_x (by decide) (by decide) (by decide +kernel)
theorem cx8x10 : Chain 8 40 401 kx8x10 kx8x11 := chunk_x (by decide) (by decide) (by decide +kernel)
theorem cx8x11 : Chain 8 40 441 kx8x11 kx8x12 := chunk_x (by decide) (by decide) (by decide +kernel)
theorem cx8x12 : Chain 8 40 481 kx8x12 kx8x13 := chunk_x (by decide) (by decide) (by decide +kernel)
theorem cx8x13 : Chain 8 40 521 kx8x13 kx8x14 := chunk_x (by decide) (by decide) (by decide +kernel)
theorem cx8x14 : Chain 8 40 561 kx8x14 kx8x15 := chunk_x (by decide) (by decide) (by decide +kernel)
theorem cx8x15 : Chain 8 40 601 kx8x15 kx8x16 := chunk_x (by decide) (by decide) (by decide +kernel)
theorem seq8 : ∃ f, Seq 8 f := by
  obtain ⟨f, h0, h⟩ := Chain.seq (((((((((((((((cx8x0.app cx8x1).app cx8x2).app cx8x3).app cx8x4).app cx8x5).app cx8x6).app cx8x7).app cx8x8).app cx8x9).app cx8x10).app cx8x11).app cx8x12).app cx8x13).app cx8x14).app cx8x15)
  exact ⟨f, h0, h⟩
noncomputable def ks8x0 : C4 := ⟨1606938044258990275541962092341162602522202993782792835301376, 1606938044258990275541962092341162602522202993782792835301376, 1606938044258990275542496441995468138703110324221025533820928, 1606938044258990275542496441995468138703110324221025533820928⟩
noncomputable def ks8x1 : C4 := ⟨1606938044258990275542015261460993999157119146065204049084416, 1606938044258990275542015593767992945386087372016969119170560, 1606938044258990275542443272875636742068194171938614320037888, 1606938044258990275542549611115299535338026476503436747603968⟩
noncomputable def ks8x2 : C4 := ⟨1606938044258990275542068430580825395792035298347615262867456, 1606938044258990275542070424422819073165844654058205683384320, 1606938044258990275542387445299813775601532212042082545565696, 1606938044258990275542605438691122501804688436399968522076160⟩
noncomputable def ks8x3 : C4 := ⟨1606938044258990275542121599700656792426951450630026476650496, 1606938044258990275542128245840635717006315969665327878373376, 1606938044258990275542331617723990809134870252145550771093504, 1606938044258990275542663924722937038103096203910620857237504⟩
noncomputable def ks8x4 : C4 := ⟨1606938044258990275542174768820488189061867602912437690433536, 1606938044258990275542192048784433392968215352404221334913024, 1606938044258990275542266485552197348257097965599597034209280, 1606938044258990275542727727666734714064995586649514313777152⟩
noncomputable def ks8x5 : C4 := ⟨1606938044258990275542227937940319585696783755194848904216576, 1606938044258990275542267814780193133172970869406657314553856, 1606938044258990275542192048784433392968215352404221334913024, 1606938044258990275542802164434498669353878199844890013073408⟩
noncomputable def ks8x6 : C4 := ⟨1606938044258990275542281107060150982331699907477260117999616, 1606938044258990275542376811475847496274548981585600302809088, 1606938044258990275542083052088779029866637240225278346657792, 1606938044258990275542908502674161462623710504409712440639488⟩
noncomputable def ks8x7 : C4 := ⟨1606938044258990275542302374708083540985666368390224603512832, 1606938044258990275542496441995468138703110324221025533820928, 1606938044258990275541962092341162602522202993782792835301376, 1606938044258990275543030791649773674884017654659258232340480⟩
theorem cs8x0 : ChainS 8 40 1 ks8x0 ks8x1 := chunk_s (by decide) (by decide +kernel)
theorem cs8x1 : ChainS 8 40 41 ks8x1 ks8x2 := chunk_s (by decide) (by decide +kernel)
theorem cs8x2 : ChainS 8 40 81 ks8x2 ks8x3 := chunk_s (by decide) (by decide +kernel)
theorem cs8x3 : ChainS 8 40 121 ks8x3 ks8x4 := chunk_s (by decide) (by decide +kernel)
theorem cs8x4 : ChainS 8 40 161 ks8x4 ks8x5 := chunk_s (by decide) (by decide +kernel)
theorem cs8x5 : ChainS 8 40 201 ks8x5 ks8x6 := chunk_s (by decide) (by decide +kernel)
theorem cs8x6 : ChainS 8 16 241 ks8x6 ks8x7 := chunk_s (by decide) (by decide +kernel)
theorem seqs8 : ∃ f, SeqS 8 f 1606938044258990275542496441995468138703110324221025533820928 := by
  obtain ⟨f, h0, h⟩ := ChainS.seq ((((((cs8x0.app cs8x1).app cs8x2).app cs8x3).app cs8x4).app cs8x5).app cs8x6)
  exact ⟨f, h0, h⟩
theorem cy8x0 : runY 8 16 1 = true := by decide +kernel
theorem cy8x1 : runY 8 16 33 = true := by decide +kernel
theorem cy8x2 : runY 8 16 65 = true := by decide +kernel
theorem cy8x3 : runY 8 16 97 = true := by decide +kernel
theorem cy8x4 : runY 8 16 129 = true := by decide +kernel
theorem cy8x5 : runY 8 16 161 = true := by decide +kernel
theorem cy8x6 : runY 8 16 193 = true := by decide +kernel
theorem cy8x7 : runY 8 16 225 = true := by decide +kernel
theorem ally8 : YAll 8 := yall_of rfl (runY_to (N := 128) rfl rfl (runY_to (N := 112) rfl rfl (runY_to (N := 96) rfl rfl (runY_to (N := 80) rfl rfl (runY_to (N := 64) rfl rfl (runY_to (N := 48) rfl rfl (runY_to (N := 32) rfl rfl cy8x0 cy8x1) cy8x2) cy8x3) cy8x4) cy8x5) cy8x6) cy8x7)
theorem facts8 {C : Cx} (H : C.All) : LawFacts C 18 ((8 : Nat) : Int) := facts_of H (by decide) (by decide) seq8 seqs8 (by decide +kernel) ally8 (by decide +kernel)
end Mine
end
section
namespace Mine
noncomputable def kx9x0 : C5 := ⟨1606938044258990275541962092341162602522202993782792835301376, 1606938044258990275542302374708083540985666368390224603512832, 1606938044258990275542302374708083540985666368390224603512832, 1606938044258990275541962092341162602522202993782792835301376, 0⟩
noncomputable def kx9x1 : C5 := ⟨1606938044258990275542015261460993999157119146065204049084416, 1606938044258990275542359531511902292368201232093816658329600, 1606938044258990275542253193272239499098368927528994230763520, 1606938044258990275542014763000495579813666807137556443955200, 1606938044258990275541330709043164767482573685429159671627776⟩
noncomputable def kx9x2 : C5 := ⟨1606938044258990275542068430580825395792035298347615262867456, 1606938044258990275542427322139687323077719326253890955902976, 1606938044258990275542211322590372274248372457606595399909376, 1606938044258990275542065107510835933502353038829964562006016, 1606938044258990275541565982398418697592077659278829292617728⟩
noncomputable def kx9x3 : C5 := ⟨1606938044258990275542121599700656792426951450630026476650496, 1606938044258990275542505746591438633114220650870447496232960, 1606938044258990275542174768820488189061867602912437690433536, 1606938044258990275542111298183689459328936446125309303980032, 1606938044258990275541704222109980328842859655213098448453632⟩
noncomputable def kx9x4 : C5 := ⟨1606938044258990275542174768820488189061867602912437690433536, 1606938044258990275542597463323147792309451013557606840008704, 1606938044258990275542144196576585135996790815350051242508288, 1606938044258990275542152171944559845492028238192412924575744, 1606938044258990275541802252674669466388486310983794123866112⟩
noncomputable def kx9x5 : C5 := ⟨1606938044258990275542227937940319585696783755194848904216576, 1606938044258990275542706460018802155411029125736549828263936, 1606938044258990275542117944323668383908300965160610705702912, 1606938044258990275542188061100446038220596640983040493879296, 1606938044258990275541878018670429206593241827986230103506944⟩
noncomputable def kx9x6 : C5 := ⟨1606938044258990275542281107060150982331699907477260117999616, 1606938044258990275542831407450405937503082083600216180654080, 1606938044258990275542095347447740040338461600440585939845120, 1606938044258990275542218633344349091285673428545426941804544, 1606938044258990275541940160079232151410300080966298209615872⟩
noncomputable def kx9x7 : C5 := ⟨1606938044258990275542334276179982378966616059759671331782656, 1606938044258990275542977622529942278249101502376847018557440, 1606938044258990275542076073641801159058304495238211874848768, 1606938044258990275542244553290266897145195052783102408523776, 1606938044258990275541992581508315919030037724857238015705088⟩
noncomputable def kx9x8 : C5 := ⟨1606938044258990275542387445299813775601532212042082545565696, 1606938044258990275543150422169394317312578997294683463352320, 1606938044258990275542059458291853847609893197649958370541568, 1606938044258990275542267150166195240715034417503127174381568, 1606938044258990275542038024490421815841442623761111349985280⟩
noncomputable def kx9x9 : C5 := ⟨1606938044258990275542440614419645172236448364324493759348736, 1606938044258990275543349806368762054693514568353725515038720, 1606938044258990275542045501397898105993227707675825426923520, 1606938044258990275542286423972134121995191522705501239377920, 1606938044258990275542078067483794836432113850948802295365632⟩
noncomputable def kx9x10 : C5 := ⟨1606938044258990275542493783539476568871364516606904973131776, 1606938044258990275543583750496020199887145638396334855684096, 1606938044258990275542033372192436568635887460436400368779264, 1606938044258990275542302374708083540985666368390224603512832, 1606938044258990275542113956639681029160682253739429864669184⟩
noncomputable def kx9x11 : C5 := ⟨1606938044258990275542546952659307965506280668889316186914816, 1606938044258990275543860229919143462388709630264873167355904, 1606938044258990275542023070675469235537872455931683196108800, 1606938044258990275542316996216037175060268310267887687303168, 1606938044258990275542146190418578813370600171060641663025152⟩
noncomputable def kx9x12 : C5 := ⟨1606938044258990275542600121779139362141196821171727400697856, 1606938044258990275544179244638131842198206543959340450054144, 1606938044258990275542014264539997160470214468209908838825984, 1606938044258990275542330288495995024218997348338490490748928, 1606938044258990275542176098048483973977740506719497970778112⟩
noncomputable def kx9x13 : C5 := ⟨1606938044258990275542663924722937038103096203910620857237504, 1606938044258990275544636499068681853258485453588076888588288, 1606938044258990275542005292251025612288072367512251946500096, 1606938044258990275542343580775952873377726386409093294194688, 1606938044258990275542208664134380704416626649992474839220224⟩
noncomputable def kx9x14 : C5 := ⟨1606938044258990275542770262962599831372928508475443284803584, 1606938044258990275545620127785562691004434270812684343574528, 1606938044258990275541993744582812230831426515688415761006592, 1606938044258990275542360860739898077284074135900876938674176, 1606938044258990275542256516342228961388051187046644931624960⟩
noncomputable def kx9x15 : C5 := ⟨1606938044258990275542876601202262624642760813040265712369664, 1606938044258990275546959989605313886204321308329446930907136, 1606938044258990275541985270754339101992736753918406473809920, 1606938044258990275542375482247851711358676077778540022464512, 1606938044258990275542298387024096186238047656969043762479104⟩
noncomputable def kx9x16 : C5 := ⟨1606938044258990275542982939441925417912593117605088139935744, 1606938044258990275548789007327513930445436946844392685043712, 1606938044258990275541979039998108860199582517322811409694720, 1606938044258990275542387445299813775601532212042082545565696, 1606938044258990275542335605407978163882488963566731612127232⟩
noncomputable def kx9x17 : C5 := ⟨1606938044258990275543089277681588211182425422169910567501824, 1606938044258990275551298589783555851613479334574201975603200, 1606938044258990275541974470776873349551269410486041696010240, 1606938044258990275542396749895784270012642538691504507977728, 1606938044258990275542370165335868571695184462550298901086208⟩
noncomputable def kx9x18 : C5 := ⟨1606938044258990275543195615921251004452257726734732995067904, 1606938044258990275554722681100697794902079541561484143230976, 1606938044258990275541971168476071321400897665090376312029184, 1606938044258990275542404725263758979507879961533866190045184, 1606938044258990275542400737579771624760261250112685349011456⟩
noncomputable def kx9x19 : C5 := ⟨1606938044258990275543301954160913797722090031299555422633984, 1606938044258990275559401563645860698774700942413670956138496, 1606938044258990275541968717711954092962256998696108920143872, 1606938044258990275542411371403737904087244480569167591768064, 1606938044258990275542428651367683107993592230060951236247552⟩
noncomputable def kx9x20 : C5 := ⟨1606938044258990275543493362992306825607788179516235792252928, 1606938044258990275572587505364047064233906708451651974332416, 1606938044258990275541965872333275615876716563984120507531264, 1606938044258990275542422005227704183414227711025649834524672, 1606938044258990275542473845119539795133270959501000767963136⟩
noncomputable def kx9x21 : C5 := ⟨1606938044258990275543706039471632412147452788645880647385088, 1606938044258990275599129529983880264384049927831329894825984, 1606938044258990275541964117336937431104978120676361231138816, 1606938044258990275542431309823674677825338037675071796936704, 1606938044258990275542517709643400697357076785133990019334144⟩
noncomputable def kx9x22 : C5 := ⟨1606938044258990275543918715950957998687117397775525502517248, 1606938044258990275648810755554337280049702620516368053698560, 1606938044258990275541963174935057607033763542391277477691392, 1606938044258990275542437955963653602404702556710373198659584, 1606938044258990275542557586483274244833263899345798429671424⟩
noncomputable def kx9x23 : C5 := ⟨1606938044258990275544131392430283585226782006905170357649408, 1606938044258990275741367559356832542111740513737809007214592, 1606938044258990275541962672580336543789190482065757625647104, 1606938044258990275542443272875636742068194171938614320037888, 1606938044258990275542592146411164652645959398329365718630400⟩
noncomputable def kx9x24 : C5 := ⟨1606938044258990275544344068909609171766446616034815212781568, 1606938044258990275914911566486511158478061563528010795057152, 1606938044258990275541962402580899899978153798479948506202112, 1606938044258990275542448589787619881731685787166855441416192, 1606938044258990275542624047883063490626909089698812446900224⟩
noncomputable def kx9x25 : C5 := ⟨1606938044258990275544556745388934758306111225164460067913728, 1606938044258990276238860379795244575695194189803054132363264, 1606938044258990275541962258494662075636687106758675370344448, 1606938044258990275542452577471607236479304498588036282449920, 1606938044258990275542653290898970758776112973454138614480896⟩
noncomputable def kx9x26 : C5 := ⟨1606938044258990275544854492459990579461641677945962865098752, 1606938044258990277213429078656812335054299065487638289973248, 1606938044258990275541962161625873808596309161986603228332032, 1606938044258990275542456565155594591226923210009217123483648, 1606938044258990275542690509282852736420554280051826464129024⟩
noncomputable def kx9x27 : C5 := ⟨1606938044258990275545279845418641752540970896205252575363072, 1606938044258990281378485249769099127846004260452481198194688, 1606938044258990275541962112177359194893536668403204593025024, 1606938044258990275542461882067577730890414825237458244861952, 1606938044258990275542735703034709423560233009491875995844608⟩
noncomputable def kx9x28 : C5 := ⟨1606938044258990275545705198377292925620300114464542285627392, 1606938044258990295926237000373060317832195477375435774361600, 1606938044258990275541962098020237291544670712488023195385856, 1606938044258990275542465869751565085638033536658639085895680, 1606938044258990275542778238330574540868165931317804966871040⟩
noncomputable def kx9x29 : C5 := ⟨1606938044258990275546130551335944098699629332723831995891712, 1606938044258990346625587412657523866167304987849445135613952, 1606938044258990275541962093968825973215249545304559751004160, 1606938044258990275542468528207556655469779344272759646584832, 1606938044258990275542815456714456518512607237915492816519168⟩
noncomputable def kx9x30 : C5 := ⟨1606938044258990275546555904294595271778958550983121706156032, 1606938044258990523637752425994345052107068776995814589333504, 1606938044258990275541962092807658023406191413533579614879744, 1606938044258990275542471186663548225301525151886880207273984, 1606938044258990275542847358186355356493556929284939544788992⟩
noncomputable def kx9x31 : C5 := ⟨1606938044258990275546981257253246444858287769242411416420352, 1606938044258991142483431685219137229723250842987846380290048, 1606938044258990275541962092474899740846281195640695023468544, 1606938044258990275542473845119539795133270959501000767963136, 1606938044258990275542876601202262624642760813040265712369664⟩
noncomputable def kx9x32 : C5 := ⟨1606938044258990275547406610211897617937616987501701126684672, 1606938044258993297292936493240598280612028937635776895647744, 1606938044258990275541962092379429805016592668840474563313664, 1606938044258990275542475174347535580049143863308061048307712, 1606938044258990275542905844218169892791964696795591879950336⟩
theorem cx9x0 : Chain 9 40 1 kx9x0 kx9x1 := chunk_x (by decide) (by decide) (by decide +kernel)
theorem cx9x1 : Chain 9 40 41 kx9x1 kx9x2 := chunk_x (by decide) (by decide) (by decide +kernel)
theorem cx9x2 : Chain 9 40 81 kx9x2 kx9x3 := chunk_x (by decide) (by decide) (by decide +kernel)
theorem cx9x3 : Chain 9 40 121 kx9x3 kx9x4 := chunk_x (by decide) (by decide) (by decide +kernel)
theorem cx9x4 : Chain 9 40 161 kx9x4 kx9x5 := chunk_x (by decide) (by decide) (by decide +kernel)
theorem cx9x5 : Chain 9 40 201 kx9x5 kx9x6 := chunk_x (by decide) (by decide) (by decide +kernel)
theorem cx9x6 : Chain 9 40 241 kx9x6 kx9x7 := chunk_x (by decide) (by decide) (by decide +kernel)
theorem cx9x7 : Chain 9 40 281 kx9x7 kx9x8 := chunk_x (by decide) (by decide) (by decide +kernel)
theorem cx9x8 : Chain 9 40 321 kx9x8 kx9x9 := chunk_x (by decide) (by decide) (by decide +kernel)
theorem cx9x9 : Chain 9 40 361 kx9x9 kx9x10 := chunk_x (by decide) (by decide) (by decide +kernel)
theorem cx9x10 : Chain 9 40 401 kx9x10 kx9x11 := chunk_x (by decide) (by decide) (by decide +kernel)
theorem cx9x11 : Chain 9 40 441 kx9x11 kx9x12 := chunk_x (by decide) (by decide) (by decide +kernel)
theorem cx9x12 : Chain 9 40 481 kx9x12 kx9x13 := chunk_x (by decide) (by decide) (by decide +kernel)
theorem cx9x13 : Chain 9 40 521 kx9x13 kx9x14 := chunk_x (by decide) (by decide) (by decide +kernel)
theorem cx9x14 : Chain 9 40 561 kx9x14 kx9x15 := chunk_x (by decide) (by decide) (by decide +kernel)
theorem cx9x15 : Chain 9 40 601 kx9x15 kx9x16 := chunk_x (by decide) (by decide) (by decide +kernel)
theorem cx9x16 : Chain 9 40 641 kx9x16 kx9x17 := chunk_x (by decide) (by decide) (by decide +kernel)
theorem cx9x17 : Chain 9 40 681 kx9x17 kx9x18 := chunk_x (by decide) (by decide) (by decide +kernel)
theorem cx9x18 : Chain 9 40 721 kx9x18 kx9x19 := chunk_x (by decide) (by decide) (by decide +kernel)
theorem cx9x19 : Chain 9 40 761 kx9x19 kx9x20 := chunk_x (by decide) (by decide) (by decide +kernel)
theorem cx9x20 : Chain 9 40 801 kx9x20 kx9x21 := chunk_x (by decide) (by decide) (by decide +kernel)
theorem cx9x21 : Chain 9 40 841 kx9x21 kx9x22 := chunk_x (by decide) (by decide) (by decide +kernel)
theorem cx9x22 : Chain 9 40 881 kx9x22 kx9x23 := chunk_x (by decide) (by decide) (by decide +kernel)
theorem cx9x23 : Chain 9 40 921 kx9x23 kx9x24 := chunk_x (by decide) (by decide) (by decide +kernel)
theorem cx9x24 : Chain 9 40 961 kx9x24 kx9x25 := chunk_x (by decide) (by decide) (by decide +kernel)
theorem cx9x25 : Chain 9 40 1001 kx9x25 kx9x26 := chunk_x (by decide) (by decide) (by decide +kernel)
theorem cx9x26 : Chain 9 40 1041 kx9x26 kx9x27 := chunk_x (by decide) (by decide) (by decide +kernel)
theorem cx9x27 : Chain 9 40 1081 kx9x27 kx9x28 := chunk_x (by decide) (by decide) (by decide +kernel)
theorem cx9x28 : Chain 9 40 1121 kx9x28 kx9x29 := chunk_x (by decide) (by decide) (by decide +kernel)
theorem cx9x29 : Chain 9 40 1161 kx9x29 kx9x30 := chunk_x (by decide) (by decide) (by decide +kernel)
theorem cx9x30 : Chain 9 40 1201 kx9x30 kx9x31 := chunk_x (by decide) (by decide) (by decide +kernel)
theorem cx9x31 : Chain 9 40 1241 kx9x31 kx9x32 := chunk_x (by decide) (by decide) (by decide +kernel)
theorem seq9 : ∃ f, Seq 9 f := by
  obtain ⟨f, h0, h⟩ := Chain.seq (((((((((((((((((((((((((((((((cx9x0.app cx9x1).app cx9x2).app cx9x3).app cx9x4).app cx9x5).app cx9x6).app cx9x7).app cx9x8).app cx9x9).app cx9x10).app cx9x11).app cx9x12).app cx9x13).app cx9x14).app cx9x15).app cx9x16).app cx9x17).app cx9x18).app cx9x19).app cx9x20).app cx9x21).app cx9x22).app cx9x23).app cx9x24).app cx9x25).app cx9x26).app cx9x27).app cx9x28).app cx9x29).app cx9x30).app cx9x31)
  exact ⟨f, h0, h⟩
noncomputable def ks9x0 : C4 := ⟨1606938044258990275541962092341162602522202993782792835301376, 1606938044258990275541962092341162602522202993782792835301376, 1606938044258990275542496441995468138703110324221025533820928, 1606938044258990275542496441995468138703110324221025533820928⟩
noncomputable def ks9x1 : C4 := ⟨1606938044258990275541988676901078300839661069923998442192896, 1606938044258990275541988676901078300839661069923998442192896, 1606938044258990275542469857435552440385652248079819926929408, 1606938044258990275542523026555383837020568400362231140712448⟩
noncomputable def ks9x2 : C4 := ⟨1606938044258990275542015261460993999157119146065204049084416, 1606938044258990275542015427614493472271603259041086584127488, 1606938044258990275542443272875636742068194171938614320037888, 1606938044258990275542549611115299535338026476503436747603968⟩
noncomputable def ks9x3 : C4 := ⟨1606938044258990275542041846020909697474577222206409655975936, 1606938044258990275542042676788407063046997787085822331191296, 1606938044258990275542416688315721043750736095797408713146368, 1606938044258990275542577524903211018571357456451702634840064⟩
noncomputable def ks9x4 : C4 := ⟨1606938044258990275542068430580825395792035298347615262867456, 1606938044258990275542070092115820126936876428106440613298176, 1606938044258990275542388774527809560517405115849142825910272, 1606938044258990275542604109463126716888815532592908241731584⟩
noncomputable def ks9x5 : C4 := ⟨1606938044258990275542095015140741094109493374488820869758976, 1606938044258990275542098670517729502628143859958236640706560, 1606938044258990275542359531511902292368201232093816658329600, 1606938044258990275542633352479033985038019416348234409312256⟩
noncomputable def ks9x6 : C4 := ⟨1606938044258990275542121599700656792426951450630026476650496, 1606938044258990275542128245840635717006315969665327878373376, 1606938044258990275542330288495995024218997348338490490748928, 1606938044258990275542663924722937038103096203910620857237504⟩
noncomputable def ks9x7 : C4 := ⟨1606938044258990275542148184260572490744409526771232083542016, 1606938044258990275542158818084538770071392757227714326298624, 1606938044258990275542299716252091971153920560776104042823680, 1606938044258990275542693167738844306252300087665947024818176⟩
noncomputable def ks9x8 : C4 := ⟨1606938044258990275542174768820488189061867602912437690433536, 1606938044258990275542192048784433392968215352404221334913024, 1606938044258990275542267150166195240715034417503127174381568, 1606938044258990275542725069210743144233249779035393753088000⟩
noncomputable def ks9x9 : C4 := ⟨1606938044258990275542201353380403887379325679053643297325056, 1606938044258990275542227273326321693238847303291318764044288, 1606938044258990275542231261010309047986466014712499605078016, 1606938044258990275542762287594625121877691085633081602736128⟩
noncomputable def ks9x10 : C4 := ⟨1606938044258990275542227937940319585696783755194848904216576, 1606938044258990275542267150166195240715034417503127174381568, 1606938044258990275542191384170435500510278900500691194740736, 1606938044258990275542802164434498669353878199844890013073408⟩
noncomputable def ks9x11 : C4 := ⟨1606938044258990275542254522500235284014241831336054511108096, 1606938044258990275542314337760045605228522502653767126614016, 1606938044258990275542144861190583028454727267253581382680576, 1606938044258990275542847358186355356493556929284939544788992⟩
noncomputable def ks9x12 : C4 := ⟨1606938044258990275542281107060150982331699907477260117999616, 1606938044258990275542375482247851711358676077778540022464512, 1606938044258990275542083052088779029866637240225278346657792, 1606938044258990275542911161130153032455456312023833001328640⟩
noncomputable def ks9x13 : C4 := ⟨1606938044258990275542302374708083540985666368390224603512832, 1606938044258990275542496441995468138703110324221025533820928, 1606938044258990275541962092341162602522202993782792835301376, 1606938044258990275543030791649773674884017654659258232340480⟩
theorem cs9x0 : ChainS 9 40 1 ks9x0 ks9x1 := chunk_s (by decide) (by decide +kernel)
theorem cs9x1 : ChainS 9 40 41 ks9x1 ks9x2 := chunk_s (by decide) (by decide +kernel)
theorem cs9x2 : ChainS 9 40 81 ks9x2 ks9x3 := chunk_s (by decide) (by decide +kernel)
theorem cs9x3 : ChainS 9 40 121 ks9x3 ks9x4 := chunk_s (by decide) (by decide +kernel)
theorem cs9x4 : ChainS 9 40 161 ks9x4 ks9x5 := chunk_s (by decide) (by decide +kernel)
theorem cs9x5 : ChainS 9 40 201 ks9x5 ks9x6 := chunk_s (by decide) (by decide +kernel)
theorem cs9x6 : ChainS 9 40 241 ks9x6 ks9x7 := chunk_s (by decide) (by decide +kernel)
theorem cs9x7 : ChainS 9 40 281 ks9x7 ks9x8 := chunk_s (by decide) (by decide +kernel)
theorem cs9x8 : ChainS 9 40 321 ks9x8 ks9x9 := chunk_s (by decide) (by decide +kernel)
theorem cs9x9 : ChainS 9 40 361 ks9x9 ks9x10 := chunk_s (by decide) (by decide +kernel)
theorem cs9x10 : ChainS 9 40 401 ks9x10 ks9x11 := chunk_s (by decide) (by decide +kernel)
theorem cs9x11 : ChainS 9 40 441 ks9x11 ks9x12 := chunk_s (by decide) (by decide +kernel)
theorem cs9x12 : ChainS 9 32 481 ks9x12 ks9x13 := chunk_s (by decide) (by decide +kernel)
theorem seqs9 : ∃ f, SeqS 9 f 1606938044258990275542496441995468138703110324221025533820928 := by
  obtain ⟨f, h0, h⟩ := ChainS.seq ((((((((((((cs9x0.app cs9x1).app cs9x2).app cs9x3).app cs9x4).app cs9x5).app cs9x6).app cs9x7).app cs9x8).app cs9x9).app cs9x10).app cs9x11).app cs9x12)
  exact ⟨f, h0, h⟩
theorem cy9x0 : runY 9 16 1 = true := by decide +kernel
theorem cy9x1 : runY 9 16 33 = true := by decide +kernel
theorem cy9x2 : runY 9 16 65 = true := by decide +kernel
theorem cy9x3 : runY 9 16 97 = true := by decide +kernel
theorem cy9x4 : runY 9 16 129 = true := by decide +kernel
theorem cy9x5 : runY 9 16 161 = true := by decide +kernel
theorem cy9x6 : runY 9 16 193 = true := by decide +kernel
theorem cy9x7 : runY 9 16 225 = true := by decide +kernel
theorem cy9x8 : runY 9 16 257 = true := by decide +kernel
theorem cy9x9 : runY 9 16 289 = true := by decide +kernel
theorem cy9x10 : runY 9 16 321 = true := by decide +kernel
theorem cy9x11 : runY 9 16 353 = true := by decide +kernel
theorem cy9x12 : runY 9 16 385 = true := by decide +kernel
theorem cy9x13 : runY 9 16 417 = true := by decide +kernel
theorem cy9x14 : runY 9 16 449 = true := by decide +kernel
theorem cy9x15 : runY 9 16 481 = true := by decide +kernel
theorem ally9 : YAll 9 := yall_of rfl (runY_to (N := 256) rfl rfl (runY_to (N := 240) rfl rfl (runY_to (N := 224) rfl rfl (runY_to (N := 208) rfl rfl (runY_to (N := 192) rfl rfl (runY_to (N := 176) rfl rfl (runY_to (N := 160) rfl rfl (runY_to (N := 144) rfl rfl (runY_to (N := 128) rfl rfl (runY_to (N := 112) rfl rfl (runY_to (N := 96) rfl rfl (runY_to (N := 80) rfl rfl (runY_to (N := 64) rfl rfl (runY_to (N := 48) rfl rfl (runY_to (N := 32) rfl rfl cy9x0 cy9x1) cy9x2) cy9x3) cy9x4) cy9x5) cy9x6) cy9x7) cy9x8) cy9x9) cy9x10) cy9x11) cy9x12) cy9x13) cy9x14) cy9x15)
theorem facts9 {C : Cx} (H : C.All) : LawFacts C 18 ((9 : Nat) : Int) := facts_of H (by decide) (by decide) seq9 seqs9 (by decide +kernel) ally9 (by decide +kernel)
end Mine
end
section
set_option maxHeartbeats 8000000
namespace Mine
noncomputable abbrev hP : Program := (OpenRow.toRowW (OpenLaw.row PySem.Challenge.rw_pq1027_01)).prog
noncomputable def hE : Env := { scope := hP.main.scope, locals := mainNs, globals := mainNs, cells := [], code := .ref 13, frame := some 14 }
noncomputable abbrev hC0 : Code := .body (behindTheImports hP) hE
noncomputable def hT (P : Params) : BT := .node (boot_o_0 P) (.node (boot_o_1 P) (.node (boot_o_3 P) (.node (boot_o_7 P) .nil .nil) (.node ⟨.type "tuple", none, .seq #[], #[]⟩ .nil .nil)) (.node (boot_o_5 P) (.node (boot_o_9 P) .nil .nil) (.node ⟨.type "code", none, .fields #[.str "<module>" 182, .str "<module>" 183, .str "/claim/cut.py" 184, .int 1 0, .int 0 0, .int 0 0, .int 0 0, .int 0 0, .ref 11, .bool false, .int 181 0, .ref 12, .none, .none, .none, .none, .int 185 0, .int 1 0, .str "/claim/cut.py" 186], #[]⟩ .nil .nil))) (.node (boot_o_2 P) (.node (boot_o_4 P) (.node (boot_o_8 P) .nil .nil) (.node ⟨.none, none, .fields #[], #[]⟩ .nil .nil)) (.node (boot_o_6 P) (.node (boot_o_10 P) .nil .nil) (.node ⟨.type "frame", none, .plain, #[some (.ref 13), some (.ref 3), some (.ref 3), none, some (.str "__main__" 164), none, some (.ref 0)]⟩ .nil .nil)))
noncomputable abbrev hp0 : Pos := ⟨0, 0, 0, 0⟩
noncomputable abbrev hB : List Frame := [topFrame hp0]
noncomputable abbrev hS (w : World) (os : OsState) : SharedT := ⟨hT w.params, 15, {}, #[], {}, 187, os⟩
noncomputable def hV : Program := view hP (((List.range 87).filter fun i => !(i == 0 || i == 5 || i == 28 || i == 79)))
noncomputable abbrev hD (P : Params) (g : Str) (t : Nat) (v : Value) : DictEntry := ⟨PyData.keyHash P g, .str g t, v⟩
noncomputable abbrev hR (P : Params) (g : Str) (t a : Nat) : DictEntry := hD P g t (.ref a)
noncomputable abbrev hO (g q : Str) (t ln na r tt : Nat) (a b : Value) (c : Nat) : Obj := ⟨.type "code", none, .fields #[.str g t, .str q (t + 1), .str "/claim/cut.py" (t + 2), .int ln 0, .int na 0, .int 0 0, .int 0 0, .int 3 0, .ref r, .bool true, .int 181 0, .ref (r + 1), .none, a, b, .ref c, .int tt 0, .int ln 0, .str "/claim/cut.py" (tt + 1)], #[]⟩
noncomputable abbrev hC (g q : Str) (t ln na r tt : Nat) : Obj := hO g q t ln na r tt (.ref (r + 2)) (.ref (r + 3)) (r + 4)
noncomputable abbrev hN (g q : Str) (t ln na r tt : Nat) : Obj := hO g q t ln na r tt .none .none (r + 2)
noncomputable abbrev hM : Nat → Value
  | 0 => .str "scheme.binary" 299
  | 1 => .str "scheme.curves" 513
  | 3 => .str "scheme.errors" 187
  | _ => .str "law_pq1027_01" 988
noncomputable abbrev hF (d : Arguments × List Stmt × Scope) (g q : Str) (m c : Nat) : Obj := ⟨.type "function", none, .func (fnOf g q d.1 d.2.1 d.2.2 .none .none .none (hM m) none (.ref c) .none), #[]⟩
noncomputable def hK (P : Params) : Frag :=
  (nat_lit 3, ⟨.type "dict", none, .dict #[hD P "__name__" 165 (.str "law_pq1027_01" 988), hD P "__doc__" 166 (.none), hD P "__package__" 167 (.none), hD P "__loader__" 168 (.builtin "__main__.__loader__#opaque"), hD P "__spec__" 169 (.none), hR P "__annotations__" 170 6, hR P "__builtins__" 171 4, hD P "__file__" 173 (.str "/claim/cut.py" 172), hD P "__cached__" 174 (.none), hR P "SchemeError" 219 31, hR P "OutOfRange" 248 51, hR P "DivisionByZero" 273 70, hR P "OutOfDomain" 298 89, hD P "REACH" 304 (.int 65536 303), hR P "Real" 335 108, hR P "size_of" 342 119, hR P "sign_of_whole" 349 126, hR P "zeros_below" 356 133, hR P "lean" 366 140, hR P "nearest_shift" 377 147, hR P "shifted_round" 387 154, hR P "with_sticky" 395 161, hR P "rounded" 407 168, hR P "place_of" 414 175, hR P "sign_of" 421 182, hR P "negative" 428 189, hR P "magnitude" 435 196, hR P "same_real" 443 203, hR P "compare_magnitudes" 452 210, hR P "compare_reals" 460 217, hR P "far_sum" 470 224, hR P "add_reals" 484 231, hR P "subtract_reals" 493 238, hR P "divide_reals" 503 245, hR P "root_below" 512 252, hD P "MORE" 516 (.int 12 515), hD P "MOST_PLACE" 518 (.int 17 517), hD P "MOST_TURNS" 520 (.int 512 519), hR P "up_shift" 528 259, hR P "up_over" 536 266, hR P "fraction_bounds" 545 273, hR P "more_of" 553 280, hR P "less_of" 561 287, hR P "contrary_of" 568 294, hR P "often" 577 301, hR P "product_of" 587 308, hR P "part_of" 595 315, hR P "quotient_of" 601 320, hR P "widened" 609 327, hR P "greatest_of" 616 334, hR P "fraction_of" 623 341, hR P "inverse_series" 637 348, hR P "log_of_two" 644 355, hR P "half_turn" 651 362, hR P "exp_series" 662 369, hR P "wave_series" 675 376, hR P "odd_series" 691 383, hR P "decided" 703 390, hR P "reduced_by_twos" 716 397, hR P "exp_real" 729 404, hR P "log_bounds" 741 411, hR P "log_real" 750 418, hR P "quarter_turns" 763 425, hR P "wave_bounds" 773 432, hR P "need_turns" 781 439, hR P "is_slight" 789 446, hR P "angle_work" 797 453, hR P "sin_real" 807 460, hR P "cos_real" 817 467, hR P "tan_bounds" 829 474, hR P "tan_real" 838 481, hR P "small_arc" 848 488, hR P "arc_bounds" 857 495, hR P "arc_within" 867 502, hR P "atan_real" 878 509, hR P "root_bounds" 889 516, hR P "need_sine" 899 523, hR P "asin_bounds" 910 530, hR P "quarter_of" 918 537, hR P "asin_real" 928 544, hR P "acos_bounds" 938 551, hR P "acos_real" 948 558, hR P "ratio_of_reals" 959 565, hR P "slight_arc" 972 572, hR P "atan_two_real" 987 579, hR P "_law_drawn" 997 586, hR P "_law_is_at_most" 1005 593, hR P "_law_is_odd" 1011 598, hR P "_law_are_ordered" 1017 603, hR P "_law_are_bound" 1029 610, hR P "_law_are_angles" 1040 617, hR P "law" 1046 622] 92, #[]⟩) ::
  (nat_lit 104, hC "__init__" "Real.__init__" 317 28 3 99 323) ::
  (nat_lit 105, hF initDef "__init__" "Real.__init__" 0 104) ::
  (nat_lit 107, ⟨.type "dict", none, .dict #[hD P "__module__" 312 (.str "scheme.binary" 299), hD P "__firstlineno__" 316 (.int 26 315), hR P "__init__" 325 105, hR P "__static_attributes__" 328 106, hR P "__dict__" 330 109, hR P "__weakref__" 332 110, hD P "__doc__" 333 (.none)] 4, #[]⟩) ::
  (nat_lit 108, ⟨.type "type", none, .cls { name := "Real", bases := [.type "object"], mro := [.ref 108, .type "object"], ns := 107, qualname := "Real" }, #[none, none, some (.str "Real" 305), some (.str "Real" 313), some (.builtin "object.__new__"), some (.bool true)]⟩) ::
  (nat_lit 109, ⟨.type "getset_descriptor", none, .fields #[.str "__dict__" 329, .ref 108, .builtin "function.__dict__", .builtin "function.__dict__#set"], #[]⟩) ::
  (nat_lit 110, ⟨.type "getset_descriptor", none, .fields #[.str "__weakref__" 331, .ref 108, .builtin "ExceptionGroup.__weakref__", .none], #[]⟩) ::
  (nat_lit 118, hC "size_of" "size_of" 336 31 1 113 340) ::
  (nat_lit 119, hF (defAt 8) "size_of" "size_of" 0 118) ::
  (nat_lit 125, hC "sign_of_whole" "sign_of_whole" 343 33 1 120 347) ::
  (nat_lit 126, hF (defAt 9) "sign_of_whole" "sign_of_whole" 0 125) ::
  (nat_lit 132, hC "zeros_below" "zeros_below" 350 35 1 127 354) ::
  (nat_lit 133, hF (defAt 10) "zeros_below" "zeros_below" 0 132) ::
  (nat_lit 139, hC "lean" "lean" 357 37 2 134 364) ::
  (nat_lit 140, hF (defAt 11) "lean" "lean" 0 139) ::
  (nat_lit 146, hC "nearest_shift" "nearest_shift" 367 44 2 141 375) ::
  (nat_lit 147, hF (defAt 12) "nearest_shift" "nearest_shift" 0 146) ::
  (nat_lit 153, hC "shifted_round" "shifted_round" 378 49 3 148 385) ::
  (nat_lit 154, hF (defAt 13) "shifted_round" "shifted_round" 0 153) ::
  (nat_lit 160, hC "with_sticky" "with_sticky" 388 54 2 155 393) ::
  (nat_lit 161, hF (defAt 14) "with_sticky" "with_sticky" 0 160) ::
  (nat_lit 167, hC "rounded" "rounded" 396 56 3 162 405) ::
  (nat_lit 168, hF (defAt 15) "rounded" "rounded" 0 167) ::
  (nat_lit 174, hC "place_of" "place_of" 408 65 1 169 412) ::
  (nat_lit 175, hF (defAt 16) "place_of" "place_of" 0 174) ::
  (nat_lit 181, hC "sign_of" "sign_of" 415 67 1 176 419) ::
  (nat_lit 182, hF (defAt 17) "sign_of" "sign_of" 0 181) ::
  (nat_lit 188, hC "negative" "negative" 422 69 1 183 426) ::
  (nat_lit 189, hF (defAt 18) "negative" "negative" 0 188) ::
  (nat_lit 195, hC "magnitude" "magnitude" 429 71 1 190 433) ::
  (nat_lit 196, hF (defAt 19) "magnitude" "magnitude" 0 195) ::
  (nat_lit 202, hC "same_real" "same_real" 436 73 2 197 441) ::
  (nat_lit 203, hF (defAt 20) "same_real" "same_real" 0 202) ::
  (nat_lit 209, hC "compare_magnitudes" "compare_magnitudes" 444 75 2 204 450) ::
  (nat_lit 210, hF (defAt 21) "compare_magnitudes" "compare_magnitudes" 0 209) ::
  (nat_lit 216, hC "compare_reals" "compare_reals" 453 80 2 211 458) ::
  (nat_lit 217, hF (defAt 22) "compare_reals" "compare_reals" 0 216) ::
  (nat_lit 223, hC "far_sum" "far_sum" 461 86 3 218 468) ::
  (nat_lit 224, hF (defAt 23) "far_sum" "far_sum" 0 223) ::
  (nat_lit 230, hC "add_reals" "add_reals" 471 89 3 225 482) ::
  (nat_lit 231, hF (defAt 24) "add_reals" "add_reals" 0 230) ::
  (nat_lit 237, hC "subtract_reals" "subtract_reals" 485 99 3 232 491) ::
  (nat_lit 238, hF (defAt 25) "subtract_reals" "subtract_reals" 0 237) ::
  (nat_lit 244, hC "divide_reals" "divide_reals" 494 101 3 239 501) ::
  (nat_lit 245, hF (defAt 26) "divide_reals" "divide_reals" 0 244) ::
  (nat_lit 251, hC "root_below" "root_below" 504 106 1 246 510) ::
  (nat_lit 252, hF (defAt 27) "root_below" "root_below" 0 251) ::
  (nat_lit 258, hC "up_shift" "up_shift" 521 119 2 253 526) ::
  (nat_lit 259, hF (defAt 32) "up_shift" "up_shift" 1 258) ::
  (nat_lit 265, hC "up_over" "up_over" 529 121 2 260 534) ::
  (nat_lit 266, hF (defAt 33) "up_over" "up_over" 1 265) ::
  (nat_lit 272, hC "fraction_bounds" "fraction_bounds" 537 123 3 267 543) ::
  (nat_lit 273, hF (defAt 34) "fraction_bounds" "fraction_bounds" 1 272) ::
  (nat_lit 279, hC "more_of" "more_of" 546 125 2 274 551) ::
  (nat_lit 280, hF (defAt 35) "more_of" "more_of" 1 279) ::
  (nat_lit 286, hC "less_of" "less_of" 554 127 2 281 559) ::
  (nat_lit 287, hF (defAt 36) "less_of" "less_of" 1 286) ::
  (nat_lit 293, hC "contrary_of" "contrary_of" 562 129 1 288 566) ::
  (nat_lit 294, hF (defAt 37) "contrary_of" "contrary_of" 1 293) ::
  (nat_lit 300, hC "often" "often" 569 131 2 295 575) ::
  (nat_lit 301, hF (defAt 38) "often" "often" 1 300) ::
  (nat_lit 307, hC "product_of" "product_of" 578 134 3 302 585) ::
  (nat_lit 308, hF (defAt 39) "product_of" "product_of" 1 307) ::
  (nat_lit 314, hC "part_of" "part_of" 588 137 2 309 593) ::
  (nat_lit 315, hF (defAt 40) "part_of" "part_of" 1 314) ::
  (nat_lit 319, hN "quotient_of" "quotient_of" 596 139 3 316 599) ::
  (nat_lit 320, hF (defAt 41) "quotient_of" "quotient_of" 1 319) ::
  (nat_lit 326, hC "widened" "widened" 602 143 2 321 607) ::
  (nat_lit 327, hF (defAt 42) "widened" "widened" 1 326) ::
  (nat_lit 333, hC "greatest_of" "greatest_of" 610 145 1 328 614) ::
  (nat_lit 334, hF (defAt 43) "greatest_of" "greatest_of" 1 333) ::
  (nat_lit 340, hC "fraction_of" "fraction_of" 617 147 1 335 621) ::
  (nat_lit 341, hF (defAt 44) "fraction_of" "fraction_of" 1 340) ::
  (nat_lit 347, hC "inverse_series" "inverse_series" 624 151 3 342 635) ::
  (nat_lit 348, hF (defAt 45) "inverse_series" "inverse_series" 1 347) ::
  (nat_lit 354, hC "log_of_two" "log_of_two" 638 157 1 349 642) ::
  (nat_lit 355, hF (defAt 46) "log_of_two" "log_of_two" 1 354) ::
  (nat_lit 361, hC "half_turn" "half_turn" 645 159 1 356 649) ::
  (nat_lit 362, hF (defAt 47) "half_turn" "half_turn" 1 361) ::
  (nat_lit 368, hC "exp_series" "exp_series" 652 161 2 363 660) ::
  (nat_lit 369, hF (defAt 48) "exp_series" "exp_series" 1 368) ::
  (nat_lit 375, hC "wave_series" "wave_series" 663 168 4 370 673) ::
  (nat_lit 376, hF (defAt 49) "wave_series" "wave_series" 1 375) ::
  (nat_lit 382, hC "odd_series" "odd_series" 676 174 4 377 689) ::
  (nat_lit 383, hF (defAt 50) "odd_series" "odd_series" 1 382) ::
  (nat_lit 389, hC "decided" "decided" 692 181 3 384 701) ::
  (nat_lit 390, hF (defAt 51) "decided" "decided" 1 389) ::
  (nat_lit 396, hC "reduced_by_twos" "reduced_by_twos" 704 189 2 391 714) ::
  (nat_lit 397, hF (defAt 52) "reduced_by_twos" "reduced_by_twos" 1 396) ::
  (nat_lit 403, hC "exp_real" "exp_real" 717 194 2 398 727) ::
  (nat_lit 404, hF (defAt 53) "exp_real" "exp_real" 1 403) ::
  (nat_lit 410, hC "log_bounds" "log_bounds" 730 210 2 405 739) ::
  (nat_lit 411, hF (defAt 54) "log_bounds" "log_bounds" 1 410) ::
  (nat_lit 417, hC "log_real" "log_real" 742 217 2 412 748) ::
  (nat_lit 418, hF (defAt 55) "log_real" "log_real" 1 417) ::
  (nat_lit 424, hC "quarter_turns" "quarter_turns" 751 223 2 419 761) ::
  (nat_lit 425, hF (defAt 56) "quarter_turns" "quarter_turns" 1 424) ::
  (nat_lit 431, hC "wave_bounds" "wave_bounds" 764 228 3 426 771) ::
  (nat_lit 432, hF (defAt 57) "wave_bounds" "wave_bounds" 1 431) ::
  (nat_lit 438, hC "need_turns" "need_turns" 774 234 2 433 779) ::
  (nat_lit 439, hF (defAt 58) "need_turns" "need_turns" 1 438) ::
  (nat_lit 445, hC "is_slight" "is_slight" 782 237 2 440 787) ::
  (nat_lit 446, hF (defAt 59) "is_slight" "is_slight" 1 445) ::
  (nat_lit 452, hC "angle_work" "angle_work" 790 239 2 447 795) ::
  (nat_lit 453, hF (defAt 60) "angle_work" "angle_work" 1 452) ::
  (nat_lit 459, hC "sin_real" "sin_real" 798 241 2 454 805) ::
  (nat_lit 460, hF (defAt 61) "sin_real" "sin_real" 1 459) ::
  (nat_lit 466, hC "cos_real" "cos_real" 808 250 2 461 815) ::
  (nat_lit 467, hF (defAt 62) "cos_real" "cos_real" 1 466) ::
  (nat_lit 473, hC "tan_bounds" "tan_bounds" 818 259 2 468 827) ::
  (nat_lit 474, hF (defAt 63) "tan_bounds" "tan_bounds" 1 473) ::
  (nat_lit 480, hC "tan_real" "tan_real" 830 265 2 475 836) ::
  (nat_lit 481, hF (defAt 64) "tan_real" "tan_real" 1 480) ::
  (nat_lit 487, hC "small_arc" "small_arc" 839 270 3 482 846) ::
  (nat_lit 488, hF (defAt 65) "small_arc" "small_arc" 1 487) ::
  (nat_lit 494, hC "arc_bounds" "arc_bounds" 849 277 3 489 855) ::
  (nat_lit 495, hF (defAt 66) "arc_bounds" "arc_bounds" 1 494) ::
  (nat_lit 501, hC "arc_within" "arc_within" 858 283 2 496 865) ::
  (nat_lit 502, hF (defAt 67) "arc_within" "arc_within" 1 501) ::
  (nat_lit 508, hC "atan_real" "atan_real" 868 286 2 503 876) ::
  (nat_lit 509, hF (defAt 68) "atan_real" "atan_real" 1 508) ::
  (nat_lit 515, hC "root_bounds" "root_bounds" 879 292 3 510 887) ::
  (nat_lit 516, hF (defAt 69) "root_bounds" "root_bounds" 1 515) ::
  (nat_lit 522, hC "need_sine" "need_sine" 890 296 2 517 897) ::
  (nat_lit 523, hF (defAt 70) "need_sine" "need_sine" 1 522) ::
  (nat_lit 529, hC "asin_bounds" "asin_bounds" 900 300 2 524 908) ::
  (nat_lit 530, hF (defAt 71) "asin_bounds" "asin_bounds" 1 529) ::
  (nat_lit 536, hC "quarter_of" "quarter_of" 911 306 1 531 916) ::
  (nat_lit 537, hF (defAt 72) "quarter_of" "quarter_of" 1 536) ::
  (nat_lit 543, hC "asin_real" "asin_real" 919 308 2 538 926) ::
  (nat_lit 544, hF (defAt 73) "asin_real" "asin_real" 1 543) ::
  (nat_lit 550, hC "acos_bounds" "acos_bounds" 929 316 2 545 936) ::
  (nat_lit 551, hF (defAt 74) "acos_bounds" "acos_bounds" 1 550) ::
  (nat_lit 557, hC "acos_real" "acos_real" 939 319 2 552 946) ::
  (nat_lit 558, hF (defAt 75) "acos_real" "acos_real" 1 557) ::
  (nat_lit 564, hC "ratio_of_reals" "ratio_of_reals" 949 327 2 559 957) ::
  (nat_lit 565, hF (defAt 76) "ratio_of_reals" "ratio_of_reals" 1 564) ::
  (nat_lit 571, hC "slight_arc" "slight_arc" 960 331 3 566 970) ::
  (nat_lit 572, hF (defAt 77) "slight_arc" "slight_arc" 1 571) ::
  (nat_lit 578, hC "atan_two_real" "atan_two_real" 973 336 3 573 985) ::
  (nat_lit 579, hF (defAt 78) "atan_two_real" "atan_two_real" 1 578) ::
  (nat_lit 585, hC "_law_drawn" "_law_drawn" 990 355 2 580 995) ::
  (nat_lit 586, hF (defAt 80) "_law_drawn" "_law_drawn" 2 585) ::
  (nat_lit 592, hC "_law_is_at_most" "_law_is_at_most" 998 360 2 587 1003) ::
  (nat_lit 593, hF (defAt 81) "_law_is_at_most" "_law_is_at_most" 2 592) ::
  (nat_lit 597, hN "_law_is_odd" "_law_is_odd" 1006 362 3 594 1009) ::
  (nat_lit 598, hF (defAt 82) "_law_is_odd" "_law_is_odd" 2 597) ::
  (nat_lit 602, hN "_law_are_ordered" "_law_are_ordered" 1012 368 5 599 1015) ::
  (nat_lit 603, hF (defAt 83) "_law_are_ordered" "_law_are_ordered" 2 602) ::
  (nat_lit 609, hC "_law_are_bound" "_law_are_bound" 1018 376 3 604 1027) ::
  (nat_lit 610, hF (defAt 84) "_law_are_bound" "_law_are_bound" 2 609) ::
  (nat_lit 616, hC "_law_are_angles" "_law_are_angles" 1030 393 3 611 1038) ::
  (nat_lit 617, hF (defAt 85) "_law_are_angles" "_law_are_angles" 2 616) ::
  (nat_lit 621, hN "law" "law" 1041 399 1 618 1044) ::
  (nat_lit 622, hF (defAt 86) "law" "law" 2 621) :: []
noncomputable abbrev hA : List Addr := [3, 104, 105, 107, 108, 109, 110, 118, 119, 125, 126, 132, 133, 139, 140, 146, 147, 153, 154, 160, 161, 167, 168, 174, 175, 181, 182, 188, 189, 195, 196, 202, 203, 209, 210, 216, 217, 223, 224, 230, 231, 237, 238, 244, 245, 251, 252, 258, 259, 265, 266, 272, 273, 279, 280, 286, 287, 293, 294, 300, 301, 307, 308, 314, 315, 319, 320, 326, 327, 333, 334, 340, 341, 347, 348, 354, 355, 361, 362, 368, 369, 375, 376, 382, 383, 389, 390, 396, 397, 403, 404, 410, 411, 417, 418, 424, 425, 431, 432, 438, 439, 445, 446, 452, 453, 459, 460, 466, 467, 473, 474, 480, 481, 487, 488, 494, 495, 501, 502, 508, 509, 515, 516, 522, 523, 529, 530, 536, 537, 543, 544, 550, 551, 557, 558, 564, 565, 571, 572, 578, 579, 585, 586, 592, 593, 597, 598, 602, 603, 609, 610, 616, 617, 621, 622]
noncomputable abbrev hH : Hook := kmHook hK hA (fun _ => by kernel_rfl) [574, 532, 539, 476, 553, 504, 462, 455, 413, 399]
noncomputable abbrev hX (s : Shared) : Bool := xlAt hV [("REACH", .int 65536)] s && recOk (RowW.records (OpenRow.toRowW (OpenLaw.row PySem.Challenge.rw_pq1027_01))) s
structure HG where
  i : Nat
  g : Str
  m : Nat
  t : Nat
  ln : Nat
  na : Nat
  ns : Option (List Str × List Str)
noncomputable def hGs : List HG := [⟨8, "size_of", 0, 336, 31, 1, some (["number"], [])⟩, ⟨9, "sign_of_whole", 0, 343, 33, 1, some (["number"], [])⟩, ⟨10, "zeros_below", 0, 350, 35, 1, some (["number"], [])⟩, ⟨11, "lean", 0, 357, 37, 2, some (["mantissa", "exponent", "gone", "place"], [])⟩, ⟨12, "nearest_shift", 0, 367, 44, 2, some (["number", "gone", "kept", "rest", "half"], [])⟩, ⟨13, "shifted_round", 0, 378, 49, 3, some (["precision", "mantissa", "exponent", "gone"], [])⟩, ⟨14, "with_sticky", 0, 388, 54, 2, some (["number", "is_more"], [])⟩, ⟨15, "rounded", 0, 396, 56, 3, some (["precision", "top", "bottom", "shift", "kept", "rest"], [])⟩, ⟨16, "place_of", 0, 408, 65, 1, some (["real"], [])⟩, ⟨17, "sign_of", 0, 415, 67, 1, some (["real"], [])⟩, ⟨18, "negative", 0, 422, 69, 1, some (["real"], [])⟩, ⟨19, "magnitude", 0, 429, 71, 1, some (["real"], [])⟩, ⟨20, "same_real", 0, 436, 73, 2, some (["one", "other"], [])⟩, ⟨21, "compare_magnitudes", 0, 444, 75, 2, some (["one", "other", "low"], [])⟩, ⟨22, "compare_reals", 0, 453, 80, 2, some (["one", "other"], [])⟩, ⟨23, "far_sum", 0, 461, 86, 3, some (["precision", "great", "small", "shift"], [])⟩, ⟨24, "add_reals", 0, 471, 89, 3, some (["precision", "one", "other", "great", "small", "last", "low", "total"], [])⟩, ⟨25, "subtract_reals", 0, 485, 99, 3, some (["precision", "one", "other"], [])⟩, ⟨26, "divide_reals", 0, 494, 101, 3, some (["precision", "one", "other", "found"], [])⟩, ⟨27, "root_below", 0, 504, 106, 1, some (["number", "found", "better"], [])⟩, ⟨32, "up_shift", 1, 521, 119, 2, some (["number", "places"], [])⟩, ⟨33, "up_over", 1, 529, 121, 2, some (["number", "bottom"], [])⟩, ⟨34, "fraction_bounds", 1, 537, 123, 3, some (["work", "top", "bottom"], [])⟩, ⟨35, "more_of", 1, 546, 125, 2, some (["one", "other"], [])⟩, ⟨36, "less_of", 1, 554, 127, 2, some (["one", "other"], [])⟩, ⟨37, "contrary_of", 1, 562, 129, 1, some (["one"], [])⟩, ⟨38, "often", 1, 569, 131, 2, some (["one", "times", "ends"], [])⟩, ⟨39, "product_of", 1, 578, 134, 3, some (["work", "one", "other", "ends"], [])⟩, ⟨40, "part_of", 1, 588, 137, 2, some (["one", "bottom"], [])⟩, ⟨41, "quotient_of", 1, 596, 139, 3, none⟩, ⟨42, "widened", 1, 602, 143, 2, some (["one", "by"], [])⟩, ⟨43, "greatest_of", 1, 610, 145, 1, some (["one"], [])⟩, ⟨44, "fraction_of", 1, 617, 147, 1, some (["real"], [])⟩, ⟨45, "inverse_series", 1, 624, 151, 3, some (["work", "number", "sign", "power", "total", "exponent", "now", "steps"], [])⟩, ⟨46, "log_of_two", 1, 638, 157, 1, some (["work"], [])⟩, ⟨47, "half_turn", 1, 645, 159, 1, some (["work"], [])⟩, ⟨48, "exp_series", 1, 652, 161, 2, some (["work", "rest", "total", "term", "count"], [])⟩, ⟨49, "wave_series", 1, 663, 168, 4, some (["work", "rest", "first", "count", "square", "total", "term"], [])⟩, ⟨50, "odd_series", 1, 676, 174, 4, some (["work", "top", "bottom", "sign", "start", "square", "power", "total", "exponent", "now"], [])⟩, ⟨51, "decided", 1, 692, 181, 3, some (["precision", "work", "bounds_at", "found", "one", "other"], [])⟩, ⟨52, "reduced_by_twos", 1, 704, 189, 2, some (["work", "real", "top", "bottom", "given", "two", "times"], [])⟩, ⟨53, "exp_real", 1, 717, 194, 2, some (["precision", "real", "start", "bounds_at", "found"], ["real", "times"])⟩, ⟨54, "log_bounds", 1, 730, 210, 2, some (["work", "real", "place", "top", "bottom", "inner"], [])⟩, ⟨55, "log_real", 1, 742, 217, 2, some (["precision", "real"], ["real"])⟩, ⟨56, "quarter_turns", 1, 751, 223, 2, some (["work", "real", "top", "bottom", "given", "half", "turns"], [])⟩, ⟨57, "wave_bounds", 1, 764, 228, 3, some (["work", "rest", "turns", "found"], [])⟩, ⟨58, "need_turns", 1, 774, 234, 2, some (["name", "real"], [])⟩, ⟨59, "is_slight", 1, 782, 237, 2, some (["precision", "real"], [])⟩, ⟨60, "angle_work", 1, 790, 239, 2, some (["precision", "real"], [])⟩, ⟨61, "sin_real", 1, 798, 241, 2, some (["precision", "real", "bounds_at"], ["real"])⟩, ⟨62, "cos_real", 1, 808, 250, 2, some (["precision", "real", "bounds_at"], ["real"])⟩, ⟨63, "tan_bounds", 1, 818, 259, 2, some (["work", "real", "turns", "rest", "high", "wide"], [])⟩, ⟨64, "tan_real", 1, 830, 265, 2, some (["precision", "real"], ["real"])⟩, ⟨65, "small_arc", 1, 839, 270, 3, some (["work", "top", "bottom", "inner"], [])⟩, ⟨66, "arc_bounds", 1, 849, 277, 3, some (["work", "top", "bottom"], [])⟩, ⟨67, "arc_within", 1, 858, 283, 2, some (["work", "bounds", "low", "high"], [])⟩, ⟨68, "atan_real", 1, 868, 286, 2, some (["precision", "real", "work"], ["bottom", "top"])⟩, ⟨69, "root_bounds", 1, 879, 292, 3, some (["work", "top", "bottom", "square", "found"], [])⟩, ⟨70, "need_sine", 1, 890, 296, 2, some (["name", "real", "top", "bottom"], [])⟩, ⟨71, "asin_bounds", 1, 900, 300, 2, some (["work", "real", "top", "bottom", "wide"], [])⟩, ⟨72, "quarter_of", 1, 911, 306, 1, some (["sign"], ["sign"])⟩, ⟨73, "asin_real", 1, 919, 308, 2, some (["precision", "real", "work"], ["real"])⟩, ⟨74, "acos_bounds", 1, 929, 316, 2, some (["work", "real", "top", "bottom"], [])⟩, ⟨75, "acos_real", 1, 939, 319, 2, some (["precision", "real", "work"], ["real"])⟩, ⟨76, "ratio_of_reals", 1, 949, 327, 2, some (["high", "wide", "shift", "top", "bottom"], [])⟩, ⟨77, "slight_arc", 1, 960, 331, 3, some (["precision", "top", "bottom", "cube", "whole", "low", "high"], [])⟩, ⟨78, "atan_two_real", 1, 973, 336, 3, some (["precision", "high", "wide", "far", "found", "bounds_at"], ["bottom", "top", "turn"])⟩, ⟨80, "_law_drawn", 2, 990, 355, 2, some (["well", "many"], [])⟩, ⟨81, "_law_is_at_most", 2, 998, 360, 2, some (["one", "other"], [])⟩, ⟨82, "_law_is_odd", 2, 1006, 362, 3, none⟩, ⟨83, "_law_are_ordered", 2, 1012, 368, 5, none⟩, ⟨84, "_law_are_bound", 2, 1018, 376, 3, some (["bits", "x", "small", "one", "high", "value"], [])⟩, ⟨85, "_law_are_angles", 2, 1030, 393, 3, some (["bits", "x", "by", "base", "angle"], [])⟩, ⟨86, "law", 2, 1041, 399, 1, none⟩]
noncomputable def cDef (i : Nat) : Arguments × List Stmt × Scope := match PySem.Challenge.pw_pq1027_01.main.body[i]? with
  | some (.ClassDef _ _ _ body _ _ _ _ _ _ _) => (match body with
    | .FunctionDef _ args body _ _ _ scope _ _ _ :: _ => (args, body, scope)
    | _ => defAt i)
  | _ => defAt i
noncomputable abbrev hTu (l : List Value) : Obj := ⟨.type "tuple", none, .seq ⟨l⟩, #[]⟩
noncomputable abbrev hF0 (d : Arguments × List Stmt × Scope) (g q : Str) : Obj := ⟨.none, none, .func { name := g, qualname := q, params := d.1, body := .stmts d.2.1, scope := d.2.2, globals := 0, closure := [], defaults := .none, kwdefaults := .none }, #[]⟩
noncomputable abbrev hQ (g : Str) (t ln r tt : Nat) : Obj := ⟨.type "code", none, .fields #[.str g t, .str g (t + 1), .str "/claim/cut.py" (t + 2), .int ln 0, .int 0 0, .int 0 0, .int 0 0, .int 0 0, .ref r, .bool false, .int 181 0, .ref (r + 1), .none, .none, .none, .none, .int tt 0, .int ln 0, .str "/claim/cut.py" (tt + 1)], #[]⟩
noncomputable def hNm : List Str → Nat → List Value
  | [], _ => []
  | s :: l, t => .str s t :: hNm l (t + 1)
noncomputable def HG.tt (G : HG) : Nat := match G.ns with | none => G.t + 3 | some (a, b) => G.t + 3 + a.length + b.length
noncomputable def HG.k (G : HG) : Nat := match G.ns with | none => 3 | some _ => 5
noncomputable def HG.obs (G : HG) (r : Nat) : List Obj := hTu [] :: ⟨.none, none, .fields #[], #[]⟩ :: (match G.ns with
  | none => [hF0 (defAt G.i) G.g G.g, hN G.g G.g G.t G.ln G.na r G.tt, hF (defAt G.i) G.g G.g G.m (r + 3)]
  | some (a, b) => [hTu (hNm a (G.t + 3)), hTu (hNm b (G.t + 3 + a.length)), hF0 (defAt G.i) G.g G.g, hC G.g G.g G.t G.ln G.na r G.tt, hF (defAt G.i) G.g G.g G.m (r + 5)])
noncomputable def hOb : List HG → Nat → List Obj
  | [], _ => []
  | G :: l, r => G.obs r ++ hOb l (r + (G.k + 2))
noncomputable def hLn : List HG → Nat → List Value
  | [], _ => []
  | G :: l, r => .int G.ln 0 :: .int 0 0 :: .ref (r + G.k) :: hLn l (r + (G.k + 2))
noncomputable def hEn (P : Params) : List HG → Nat → List DictEntry
  | [], _ => []
  | G :: l, r => hR P G.g (G.tt + 2) (r + (G.k + 1)) :: hEn P l (r + (G.k + 2))
noncomputable def hEs (P : Params) (m : Value) (k : Nat) : List DictEntry := hD P "__name__" 165 m :: hD P "__doc__" 166 (.none) :: hD P "__package__" 167 (.none) :: hD P "__loader__" 168 (.builtin "__main__.__loader__#opaque") :: hD P "__spec__" 169 (.none) :: hR P "__annotations__" 170 6 :: hR P "__builtins__" 171 4 :: hD P "__file__" 173 (.str "/claim/cut.py" 172) :: hD P "__cached__" 174 (.none) :: hR P "SchemeError" 219 31 :: hR P "OutOfRange" 248 51 :: hR P "DivisionByZero" 273 70 :: hR P "OutOfDomain" 298 89 :: hD P "REACH" 304 (.int 65536 303) :: hR P "Real" 335 108 :: (hEn P ((hGs.take k).take 20) 113 ++ if k ≤ 20 then [] else hD P "MORE" 516 (.int 12 515) :: hD P "MOST_PLACE" 518 (.int 17 517) :: hD P "MOST_TURNS" 520 (.int 512 519) :: hEn P ((hGs.take k).drop 20) 253)
noncomputable def hLs (k : Nat) : List Value := [.int 2 0, .int 0 0, .ref 20, .int 7 0, .int 0 0, .ref 40, .int 14 0, .int 0 0, .ref 59, .int 19 0, .int 0 0, .ref 78, .int 26 0, .int 0 0, .ref 97] ++ hLn (hGs.take k) 113
noncomputable def hLow (P : Params) (d : List DictEntry) (n : Nat) (l : List Value) : List Obj := [
  boot_o_0 P,
  boot_o_1 P,
  ⟨.none, none, .dict #[hD P "type.__subclasses__.Exception.0" 216 (.int 31 0), hD P "type.__subclasses__.Exception.n" 217 (.int 1 0)] 2, #[]⟩,
  ⟨.type "dict", none, .dict ⟨d⟩ n, #[]⟩,
  boot_o_4 P,
  boot_o_5 P,
  boot_o_6 P,
  boot_o_7 P,
  boot_o_8 P,
  boot_o_9 P,
  boot_o_10 P,
  hTu [],
  ⟨.none, none, .fields ⟨l⟩, #[]⟩,
  hQ "<module>" 182 1 11 185,
  ⟨.type "frame", none, .plain, #[some (.ref 13), some (.ref 3), some (.ref 3), none, some (.str "__main__" 164), none, some (.ref 0)]⟩,
  ⟨.type "tuple", none, .seq #[.type "Exception"], #[]⟩,
  ⟨.type "builtin_function_or_method", none, .fields #[.builtin "type.__prepare__", .type "type"], #[]⟩,
  ⟨.type "dict", none, .dict #[hD P "__module__" 196 (.str "scheme.errors" 187), hD P "__qualname__" 198 (.str "SchemeError" 197), hD P "__firstlineno__" 200 (.int 2 199), hR P "__init__" 209 28, hR P "__static_attributes__" 212 29] 5, #[]⟩,
  hTu [],
  ⟨.none, none, .fields #[.int 4 0, .int 4 0, .ref 27], #[]⟩,
  hQ "SchemeError" 191 2 18 194,
  ⟨.type "frame", none, .plain, #[some (.ref 20), some (.ref 3), some (.ref 17), none, some (.str "scheme.errors" 187), none, some (.ref 0)]⟩,
  hTu [],
  ⟨.none, none, .fields #[], #[]⟩,
  hTu [.str "self" 204, .str "word" 205, .str "irritants" 206],
  hTu [],
  hF0 (cDef 1) "__init__" "SchemeError.__init__",
  hC "__init__" "SchemeError.__init__" 201 4 3 22 207,
  hF (cDef 1) "__init__" "SchemeError.__init__" 3 27,
  hTu [.str "irritants" 210, .str "word" 211],
  ⟨.type "dict", none, .dict #[hD P "__module__" 196 (.str "scheme.errors" 187), hD P "__firstlineno__" 200 (.int 2 199), hR P "__init__" 209 28, hR P "__static_attributes__" 212 29, hR P "__weakref__" 214 32, hD P "__doc__" 215 (.none)] 3, #[]⟩,
  ⟨.type "type", none, .cls { name := "SchemeError", bases := [.type "Exception"], mro := [.ref 31, .type "Exception", .type "BaseException", .type "object"], ns := 30, qualname := "SchemeError", subclasses := [.ref 51, .ref 70, .ref 89] }, #[some (.ref 15), none, some (.str "SchemeError" 189), some (.str "SchemeError" 197), some (.builtin "Exception.__new__"), some (.bool true)]⟩,
  ⟨.type "getset_descriptor", none, .fields #[.str "__weakref__" 213, .ref 31, .builtin "ExceptionGroup.__weakref__", .none], #[]⟩,
  ⟨.type "super", none, .fields #[.ref 31, .ref 31, .ref 31], #[]⟩,
  ⟨.type "builtin_function_or_method", none, .fields #[.builtin "object.__init_subclass__", .ref 31], #[]⟩,
  ⟨.type "tuple", none, .seq #[.ref 31], #[]⟩,
  ⟨.type "builtin_function_or_method", none, .fields #[.builtin "type.__prepare__", .type "type"], #[]⟩,
  ⟨.type "dict", none, .dict #[hD P "__module__" 227 (.str "scheme.errors" 187), hD P "__qualname__" 229 (.str "OutOfRange" 228), hD P "__firstlineno__" 231 (.int 7 230), hR P "__init__" 241 48, hR P "__static_attributes__" 245 49] 5, #[]⟩,
  hTu [],
  ⟨.none, none, .fields #[.int 9 0, .int 4 0, .ref 47], #[]⟩,
  hQ "OutOfRange" 222 7 38 225,
  ⟨.type "frame", none, .plain, #[some (.ref 40), some (.ref 3), some (.ref 37), none, some (.str "scheme.errors" 187), none, some (.ref 0)]⟩,
  hTu [],
  ⟨.none, none, .fields #[], #[]⟩,
  hTu [.str "self" 235, .str "name" 236, .str "place" 237, .str "datum" 238],
  hTu [],
  hF0 (cDef 2) "__init__" "OutOfRange.__init__",
  hC "__init__" "OutOfRange.__init__" 232 9 4 42 239,
  hF (cDef 2) "__init__" "OutOfRange.__init__" 3 47,
  hTu [.str "datum" 242, .str "name" 243, .str "place" 244],
  ⟨.type "dict", none, .dict #[hD P "__module__" 227 (.str "scheme.errors" 187), hD P "__firstlineno__" 231 (.int 7 230), hR P "__init__" 241 48, hR P "__static_attributes__" 245 49, hD P "__doc__" 246 (.none)] 2, #[]⟩,
  ⟨.type "type", none, .cls { name := "OutOfRange", bases := [.ref 31], mro := [.ref 51, .ref 31, .type "Exception", .type "BaseException", .type "object"], ns := 50, qualname := "OutOfRange" }, #[some (.ref 35), none, some (.str "OutOfRange" 220), some (.str "OutOfRange" 228), some (.builtin "Exception.__new__"), some (.bool true)]⟩,
  ⟨.type "super", none, .fields #[.ref 51, .ref 51, .ref 51], #[]⟩,
  ⟨.type "builtin_function_or_method", none, .fields #[.builtin "object.__init_subclass__", .ref 51], #[]⟩,
  ⟨.type "tuple", none, .seq #[.ref 31], #[]⟩,
  ⟨.type "builtin_function_or_method", none, .fields #[.builtin "type.__prepare__", .type "type"], #[]⟩,
  ⟨.type "dict", none, .dict #[hD P "__module__" 256 (.str "scheme.errors" 187), hD P "__qualname__" 258 (.str "DivisionByZero" 257), hD P "__firstlineno__" 260 (.int 14 259), hR P "__init__" 268 67, hR P "__static_attributes__" 270 68] 5, #[]⟩,
  hTu [],
  ⟨.none, none, .fields #[.int 16 0, .int 4 0, .ref 66], #[]⟩,
  hQ "DivisionByZero" 251 14 57 254,
  ⟨.type "frame", none, .plain, #[some (.ref 59), some (.ref 3), some (.ref 56), none, some (.str "scheme.errors" 187), none, some (.ref 0)]⟩,
  hTu [],
  ⟨.none, none, .fields #[], #[]⟩,
  hTu [.str "self" 264, .str "name" 265],
  hTu [],
  hF0 (cDef 3) "__init__" "DivisionByZero.__init__",
  hC "__init__" "DivisionByZero.__init__" 261 16 2 61 266,
  hF (cDef 3) "__init__" "DivisionByZero.__init__" 3 66,
  hTu [.str "name" 269],
  ⟨.type "dict", none, .dict #[hD P "__module__" 256 (.str "scheme.errors" 187), hD P "__firstlineno__" 260 (.int 14 259), hR P "__init__" 268 67, hR P "__static_attributes__" 270 68, hD P "__doc__" 271 (.none)] 2, #[]⟩,
  ⟨.type "type", none, .cls { name := "DivisionByZero", bases := [.ref 31], mro := [.ref 70, .ref 31, .type "Exception", .type "BaseException", .type "object"], ns := 69, qualname := "DivisionByZero" }, #[some (.ref 54), none, some (.str "DivisionByZero" 249), some (.str "DivisionByZero" 257), some (.builtin "Exception.__new__"), some (.bool true)]⟩,
  ⟨.type "super", none, .fields #[.ref 70, .ref 70, .ref 70], #[]⟩,
  ⟨.type "builtin_function_or_method", none, .fields #[.builtin "object.__init_subclass__", .ref 70], #[]⟩,
  ⟨.type "tuple", none, .seq #[.ref 31], #[]⟩,
  ⟨.type "builtin_function_or_method", none, .fields #[.builtin "type.__prepare__", .type "type"], #[]⟩,
  ⟨.type "dict", none, .dict #[hD P "__module__" 281 (.str "scheme.errors" 187), hD P "__qualname__" 283 (.str "OutOfDomain" 282), hD P "__firstlineno__" 285 (.int 19 284), hR P "__init__" 293 86, hR P "__static_attributes__" 295 87] 5, #[]⟩,
  hTu [],
  ⟨.none, none, .fields #[.int 21 0, .int 4 0, .ref 85], #[]⟩,
  hQ "OutOfDomain" 276 19 76 279,
  ⟨.type "frame", none, .plain, #[some (.ref 78), some (.ref 3), some (.ref 75), none, some (.str "scheme.errors" 187), none, some (.ref 0)]⟩,
  hTu [],
  ⟨.none, none, .fields #[], #[]⟩,
  hTu [.str "self" 289, .str "name" 290],
  hTu [],
  hF0 (cDef 4) "__init__" "OutOfDomain.__init__",
  hC "__init__" "OutOfDomain.__init__" 286 21 2 80 291,
  hF (cDef 4) "__init__" "OutOfDomain.__init__" 3 85,
  hTu [.str "name" 294],
  ⟨.type "dict", none, .dict #[hD P "__module__" 281 (.str "scheme.errors" 187), hD P "__firstlineno__" 285 (.int 19 284), hR P "__init__" 293 86, hR P "__static_attributes__" 295 87, hD P "__doc__" 296 (.none)] 2, #[]⟩,
  ⟨.type "type", none, .cls { name := "OutOfDomain", bases := [.ref 31], mro := [.ref 89, .ref 31, .type "Exception", .type "BaseException", .type "object"], ns := 88, qualname := "OutOfDomain" }, #[some (.ref 73), none, some (.str "OutOfDomain" 274), some (.str "OutOfDomain" 282), some (.builtin "Exception.__new__"), some (.bool true)]⟩,
  ⟨.type "super", none, .fields #[.ref 89, .ref 89, .ref 89], #[]⟩,
  ⟨.type "builtin_function_or_method", none, .fields #[.builtin "object.__init_subclass__", .ref 89], #[]⟩,
  hTu [],
  ⟨.type "builtin_function_or_method", none, .fields #[.builtin "type.__prepare__", .type "type"], #[]⟩,
  ⟨.type "dict", none, .dict #[hD P "__module__" 312 (.str "scheme.binary" 299), hD P "__qualname__" 314 (.str "Real" 313), hD P "__firstlineno__" 316 (.int 26 315), hR P "__init__" 325 105, hR P "__static_attributes__" 328 106] 5, #[]⟩,
  hTu [],
  ⟨.none, none, .fields #[.int 28 0, .int 4 0, .ref 104], #[]⟩,
  hQ "Real" 307 26 95 310,
  ⟨.type "frame", none, .plain, #[some (.ref 97), some (.ref 3), some (.ref 94), none, some (.str "scheme.binary" 299), none, some (.ref 0)]⟩,
  hTu [],
  ⟨.none, none, .fields #[], #[]⟩,
  hTu [.str "self" 320, .str "mantissa" 321, .str "exponent" 322],
  hTu [],
  hF0 (cDef 7) "__init__" "Real.__init__",
  hC "__init__" "Real.__init__" 317 28 3 99 323,
  hF (cDef 7) "__init__" "Real.__init__" 0 104,
  hTu [.str "exponent" 326, .str "mantissa" 327],
  ⟨.type "dict", none, .dict #[hD P "__module__" 312 (.str "scheme.binary" 299), hD P "__firstlineno__" 316 (.int 26 315), hR P "__init__" 325 105, hR P "__static_attributes__" 328 106, hR P "__dict__" 330 109, hR P "__weakref__" 332 110, hD P "__doc__" 333 (.none)] 4, #[]⟩,
  ⟨.type "type", none, .cls { name := "Real", bases := [.type "object"], mro := [.ref 108, .type "object"], ns := 107, qualname := "Real" }, #[none, none, some (.str "Real" 305), some (.str "Real" 313), some (.builtin "object.__new__"), some (.bool true)]⟩,
  ⟨.type "getset_descriptor", none, .fields #[.str "__dict__" 329, .ref 108, .builtin "function.__dict__", .builtin "function.__dict__#set"], #[]⟩,
  ⟨.type "getset_descriptor", none, .fields #[.str "__weakref__" 331, .ref 108, .builtin "ExceptionGroup.__weakref__", .none], #[]⟩,
  ⟨.type "super", none, .fields #[.ref 108, .ref 108, .ref 108], #[]⟩,
  ⟨.type "builtin_function_or_method", none, .fields #[.builtin "object.__init_subclass__", .ref 108], #[]⟩]
noncomputable def hBt : List Obj → Nat → BT → BT
  | [], _, t => t
  | o :: l, n, t => hBt l (n + 1) (t.ins n o)
noncomputable def hAll (P : Params) (m : Value) (k : Nat) : BT := hBt (hLow P (hEs P m k) (hEs P m k).length (hLs k) ++ hOb (hGs.take k) 113) 0 .nil
noncomputable abbrev hS1 (w : World) (os : OsState) : SharedT := ⟨hAll w.params (hM 0) 17, 232, {}, #[], {}, 485, os⟩
noncomputable abbrev hS2 (w : World) (os : OsState) : SharedT := ⟨hAll w.params (hM 1) 40, 391, {}, #[], {}, 704, os⟩
noncomputable abbrev hS3 (w : World) (os : OsState) : SharedT := ⟨hAll w.params (hM 1) 64, 559, {}, #[], {}, 949, os⟩
noncomputable abbrev hG : List Stmt := behindTheImports hP
noncomputable abbrev hp1 : Pos := ⟨399, 0, 411, 131⟩
noncomputable abbrev hSf (w : World) (os : OsState) : SharedT := ⟨hAll w.params (hM 2) 74, 623, {}, #[], {}, 1047, os⟩
noncomputable abbrev hq1 : Pos := ⟨89, 0, 98, 47⟩
noncomputable abbrev hq2 : Pos := ⟨181, 0, 188, 23⟩
noncomputable abbrev hq3 : Pos := ⟨319, 0, 326, 73⟩
noncomputable def hSeg (w : World) (S : SharedT) (l : List Stmt) (q : Pos) : Option (Flow × SharedT × Code × Pos) := segRunT treeTable hP w 11 (some (.ref 6)) 1 2000 S (piecesOf l hE hC0 q hB)
theorem h_s1 (w : World) : (fun os => hSeg w (hS w os) (hG.take 25) hp0) = fun os => some (.next, hS1 w os, hC0, hq1) := by
  unfold hSeg
  rw [Fast.te10110043849684766642, Fast.te14364793385576792824]
  kernel_rfl
theorem h_s2 (w : World) : (fun os => hSeg w (hS1 w os) ((hG.drop 25).take 27) hq1) = fun os => some (.next, hS2 w os, hC0, hq2) := by
  unfold hSeg
  rw [Fast.te10110043849684766642, Fast.te14364793385576792824]
  kernel_rfl
theorem h_s3 (w : World) : (fun os => hSeg w (hS2 w os) ((hG.drop 52).take 24) hq2) = fun os => some (.next, hS3 w os, hC0, hq3) := by
  unfold hSeg
  rw [Fast.te10110043849684766642, Fast.te14364793385576792824]
  kernel_rfl
theorem h_run (w : World) : (fun os => hSeg w (hS3 w os) (hG.drop 76) hq3) = fun os => some (.next, hSf w os, hC0, hp1) := by
  unfold hSeg
  rw [Fast.te10110043849684766642, Fast.te14364793385576792824]
  kernel_rfl
theorem h_l0 (w : World) : (fun os => staticsOk (importedModules hP.main.body) (boot_heap w.params) (hSf w os).abs.heap && namesBound hP (hSf w os).abs.heap && gensDone (hSf w os).abs && laidKept (boot_heap w.params) (hSf w os).abs.heap) = fun os => true := by
  rw [Fast.te5923862056798008813]
  kernel_rfl
theorem h_l1 (w : World) : (fun os => seen ((recsOf hV).map (·.name)) (ownsOf hV) [] { (hSf w os).abs with gens := #[] }) = fun os => expectedOf hV := by
  rw [Fast.te5160383126252970620, Fast.te3399658132070893891, Fast.te5991557255702980513]
  kernel_rfl
theorem h_l2 (w : World) : (fun os => ((hSf w os).abs.heap.bltView, tabsOk hV (hSf w os).abs)) = fun os => (bltViewBooted, true) := by
  rw [Fast.te479339242167458305]
  kernel_rfl
theorem h_l3 (w : World) : (fun os => (hSf w os).abs.heap.keysOk (looseW hV ["REACH"]) ((recsOf hV).map (·.name)) ((litsOf hV).map (·.1)) ((clssOf hV (looseW hV ["REACH"])).map (·.name)) && (hSf w os).abs.heap.accountedOkI (importedModules hP.main.body) && (hSf w os).abs.heap.isNs mainGlobals && (hSf w os).abs.heap.isNs builtinsNs && tablesOk hV (hSf w os).abs.heap && hX (hSf w os).abs && (hSf w os).abs.gens.size == 0) = fun os => true := by
  rw [Fast.te5923862056798008813, Fast.te3399658132070893891, Fast.te10880121769531294198, Fast.te821141287760084731, Fast.te7409074990110511671, Fast.te13664370479719496447, Fast.te14722251495701143533, Fast.te10994771534591457954]
  kernel_rfl
theorem h_l4 (w : World) : (fun os => (pinSeenD hV (drecsOf hV) (hSf w os).abs, plainSeenE hV (looseW hV ["REACH"]) (hSf w os).abs, plainSeenD hV ["REACH"] (hSf w os).abs)) = fun os => (pinGoodD (drecsOf hV), plainGoodE hV (looseW hV ["REACH"]), plainGoodD hV ["REACH"]) := by
  rw [Fast.te16090120013241838585, Fast.te3247288618530077131, Fast.te2386780881361962483, Fast.te821141287760084731, Fast.te11698064438423848299]
  kernel_rfl
theorem h_l5 (w : World) : (fun os => (wideSeen hV (hSf w os).abs, clsSeenW hV ["REACH"] (hSf w os).abs)) = fun os => (wideGood hV, clsGoodW hV ["REACH"]) := by
  rw [Fast.te7317090234206586261, Fast.te7369524293546568484]
  kernel_rfl
theorem h_l6 (w : World) : (fun os => hH.obs (hSf w os).abs) = fun os => hH.val w := by
  kernel_rfl
theorem h_pre (w : World) : (fun os => topGo treeTable hP w 11 (some (.ref 6)) 12 ⟨boot_heap w.params, #[], boot_drawn, boot_toks, os⟩ (topStub hP)) = fun os => some ((hS w os).abs, ⟨denote treeTable hC0, hC0, hp0, hB⟩) := by
  rw [Fast.te15667345088766844465, Fast.te14364793385576792824, Fast.te11892475500146522536]
  kernel_rfl
theorem h_block (w : World) (os : OsState) : segRun treeTable hP w 11 (some (.ref 6)) 1 1 (hS w os).abs (blockOf hG hE hC0 hp0 hB) = some (.next, (hS w os).abs, hC0, hp0) := by
  kernel_rfl
theorem h_fin (w : World) (S : Shared) : topRun treeTable hP w 11 (some (.ref 6)) 2 S ⟨doneF .next, hC0, hp1, hB⟩ = some S := by
  kernel_rfl
theorem h_size (w : World) : ((boot_heap w.params).isNs mainGlobals && (#[] : Array GenState).size == 0, (boot_heap w.params).objs.size, (boot_heap w.params).nsMap mainGlobals "__annotations__") = (true, 11, some (.ref 6)) := by
  rw [Fast.te8920871248978507458]
  kernel_rfl
theorem cut4 {α : Type} (l : List α) : l.take 25 ++ ((l.drop 25).take 27 ++ ((l.drop 52).take 24 ++ (l.drop 76 ++ []))) = l := by
  have h1 : (l.drop 52).take 24 ++ l.drop 76 = l.drop 52 := by
    rw [← List.drop_drop (i := 24) (j := 52)]; exact List.take_append_drop 24 _
  have h2 : (l.drop 25).take 27 ++ l.drop 52 = l.drop 25 := by
    rw [← List.drop_drop (i := 27) (j := 25)]; exact List.take_append_drop 27 _
  rw [List.append_nil, h1, h2]; exact List.take_append_drop 25 _
theorem h_top (w : World) (os : OsState) : topRun treeTable hP w 11 (some (.ref 6)) (12 + (1 + (2000 + (2000 + (2000 + (2000 + 2)))))) ⟨boot_heap w.params, #[], boot_drawn, boot_toks, os⟩ (topStub hP) = some (hSf w os).abs := by
  refine go_top (congrFun (h_pre w) os) (piece_block (h_block w os) ?_)
  have k := piece_app (q := hp0) (segRun_of (congrFun (h_s1 w) os)) (piece_app (q := hp0) (segRun_of (congrFun (h_s2 w) os)) (piece_app (q := hp0) (segRun_of (congrFun (h_s3 w) os)) (piece_app (q := hp0) (rest := []) (segRun_of (congrFun (h_run w) os)) (piece_nil (env := hE) (h_fin w (hSf w os).abs)))))
  rw [cut4] at k
  exact k
theorem top_from {tb : String → Option Builtin} {p : Program} {w : World} {N n : Nat} {s S : Shared} {ann : Option Value} (z1 : (s.heap.isNs mainGlobals && s.gens.size == 0) = true) (z2 : s.heap.objs.size = n) (z3 : s.heap.nsMap mainGlobals "__annotations__" = ann)
    (t : topRun tb p w n ann N s (topStub p) = some S) (l : (staticsOk (importedModules p.main.body) s.heap S.heap && namesBound p S.heap && gensDone S && laidKept s.heap S.heap) = true) : topFrom tb p w N s = some S := by
  subst z2 z3
  unfold topFrom
  rw [z1]
  show Option.bind _ _ = _
  rw [t]
  show (match staticsOk (importedModules p.main.body) s.heap S.heap && namesBound p S.heap && gensDone S && laidKept s.heap S.heap with | true => _ | false => _) = _
  rw [l]
theorem run_le {tb : String → Option Builtin} {p : Program} {w : World} {n n₀ k N : Nat} {s r : Shared} {ann : Option Value} {t : Thread} (e : n + k = N) (h : topRun tb p w n₀ ann n s t = some r) : topRun tb p w n₀ ann N s t = some r := by
  subst e; exact topRun_mono k _ _ _ _ h
theorem left_of {p q : Program} {loose : List Str} {Xt : Shared → Bool} {α : Type} {Yf : Shared → α} {Ya : World → α} {N : Nat} {w : World} {s S : Shared} (e : fencedOpening treeTable p w N = some s) (t : topFrom treeTable p w N s = some S)
    (l : openSeen q loose (importedModules p.main.body) Xt true S = openGood q loose) (y : Yf S = Ya w) : (openEnds treeTable p w N).map (fun s => (openSeen q loose (importedModules p.main.body) Xt true s, Yf s)) = some (openGood q loose, Ya w) := by
  unfold openEnds
  rw [e]
  show (topFrom treeTable p w N s).map _ = _
  rw [t]
  exact congrArg some (Prod.ext l y)
theorem seen_of {q : Program} {loose mods : List Str} {Xt : Shared → Bool} {s : Shared} (l1 : seen ((recsOf q).map (·.name)) (ownsOf q) [] { s with gens := #[] } = expectedOf q) (l2 : (s.heap.bltView, tabsOk q s) = (bltViewBooted, true))
    (l3 : (s.heap.keysOk (looseW q loose) ((recsOf q).map (·.name)) ((litsOf q).map (·.1)) ((clssOf q (looseW q loose)).map (·.name)) && s.heap.accountedOkI mods && s.heap.isNs mainGlobals && s.heap.isNs builtinsNs && tablesOk q s.heap && Xt s && s.gens.size == 0) = true)
    (l4 : (pinSeenD q (drecsOf q) s, plainSeenE q (looseW q loose) s, plainSeenD q loose s) = (pinGoodD (drecsOf q), plainGoodE q (looseW q loose), plainGoodD q loose)) (l5 : (wideSeen q s, clsSeenW q loose s) = (wideGood q, clsGoodW q loose)) : openSeen q loose mods Xt true s = openGood q loose := by
  obtain ⟨l2, l2'⟩ := Prod.mk.inj l2
  obtain ⟨l4, l6⟩ := Prod.mk.inj l4
  obtain ⟨l6, l7⟩ := Prod.mk.inj l6
  obtain ⟨l5, l8⟩ := Prod.mk.inj l5
  unfold openSeen openGood
  rw [l1, l2, l2', l4, l5, l6, l7, l8]
  exact Prod.ext rfl (Prod.ext rfl (Prod.ext l3 rfl))
theorem h_left : LeftO hP hV ["REACH"] hX hH.obs hH.val 9000 := fun w => by
  obtain ⟨⟨h, gs, d, k, os⟩, e, e'⟩ := Option.map_eq_some_iff.mp (boot_open (p := hP) (N := 9000) (by kernel_rfl) (by decide) (fun _ => rfl) w)
  obtain ⟨rfl, rfl, rfl, rfl⟩ : h = boot_heap w.params ∧ gs = #[] ∧ d = boot_drawn ∧ k = boot_toks := by
    injection e' with e1 e2; injection e2 with e2 e3; injection e3 with e3 e4; exact ⟨e1, e2, e3, e4⟩
  obtain ⟨z1, z2⟩ := Prod.mk.inj (h_size w)
  obtain ⟨z2, z3⟩ := Prod.mk.inj z2
  exact left_of e (top_from z1 z2 z3 (run_le (n := 12 + (1 + (2000 + (2000 + (2000 + (2000 + 2)))))) (k := 985) rfl (h_top w os)) (congrFun (h_l0 w) os))
    (seen_of (congrFun (h_l1 w) os) (congrFun (h_l2 w) os) (congrFun (h_l3 w) os) (congrFun (h_l4 w) os) (congrFun (h_l5 w) os)) (congrFun (h_l6 w) os)
theorem h_k1 : sreFenced hP.main = true := by
  rw [Fast.te11788848310118352699]; kernel_rfl
theorem h_k2 : ((moduleNames hP.main.body).isEmpty || lookedIntoSs (moduleNames hP.main.body) hP.main.body) = true := by
  rw [Fast.te9807087744658564304, Fast.te12862048085361865435]; kernel_rfl
theorem h_k3 : namesResolve hP = true := by
  rw [Fast.te8377067652309620493]; kernel_rfl
theorem h_k4 : hP.boundNames.all (fun n => !worldNames.contains n) = true := by
  rw [Fast.te18344453789297297638, Fast.te3471404346716756564, Fast.te14412699480532031325]; kernel_rfl
theorem h_k5 : noRoadLSs { strict := !(importedModules hP.main.body).all cThrough.contains, foot := none, bare := (["vars", "dir", "locals"] : List Str).filter (readsOut hP hP.main.body) } hP.main.body = true := by
  rw [Fast.te8326940854005059898, Fast.te5923862056798008813, Fast.te13343964577679436407, Fast.te17691160309236699985]; kernel_rfl
theorem h_k6 : (namesMeet hP hP.main.body fun _ n => attrL n) = true := by
  rw [Fast.te17119622794617984870, Fast.te17868728402115742887]; kernel_rfl
theorem h_row : (OpenLaw.row PySem.Challenge.rw_pq1027_01).wellSaid = true := by
  unfold OpenRow.wellSaid OpenRow.partSaid looksOpen
  refine look_both (look_both (look_both (look_both (look_both (look_both (look_both (look_both (look_both (look_both (look_both (look_both (look_both (look_both (look_both (look_both (look_both (look_both (look_both (look_both h_k1 h_k2) h_k3) h_k4) h_k5) h_k6) ?_) ?_) ?_) ?_) ?_) ?_) ?_) ?_) ?_) ?_) ?_) ?_) ?_) ?_) ?_
  all_goals (
    try rw [Fast.te18344453789297297638]
    try rw [Fast.te3471404346716756564]
    kernel_rfl)
theorem h_said : OpenLaw.wellSaid PySem.Challenge.rw_pq1027_01 = true := by
  unfold OpenLaw.wellSaid
  refine look_both (look_both (look_both (look_both (look_both (look_both (look_both (look_both (look_both (look_both (look_both (look_both (look_both (look_both (look_both (look_both (look_both (look_both h_row ?_) ?_) ?_) ?_) ?_) ?_) ?_) ?_) ?_) ?_) ?_) ?_) ?_) ?_) ?_) ?_) ?_) ?_
  all_goals (
    try rw [Fast.te10501279942588096481]
    try rw [Fast.te8179353310426384613]
    try rw [Fast.te8326940854005059898]
    try rw [Fast.te797321630700447069]
    try rw [Fast.te9572597257264208301]
    try rw [Fast.te9558739934217749035]
    try rw [Fast.te16286561074155671207]
    try rw [Fast.te6984425678791042302]
    try rw [Fast.te482687673346738481]
    try rw [Fast.te17119622794617984870]
    try rw [Fast.te3471404346716756564]
    try rw [Fast.te10792542408131684335]
    kernel_rfl)
end Mine
end
section
set_option maxHeartbeats 8000000
namespace Mine
noncomputable def lawTabs : List (Addr × Addr × Str) := [(578, 574, "atan_two_real.<locals>.bounds_at"), (536, 532, "quarter_of.<locals>.<lambda>"), (543, 539, "asin_real.<locals>.<lambda>"), (480, 476, "tan_real.<locals>.<lambda>"), (557, 553, "acos_real.<locals>.<lambda>"), (508, 504, "atan_real.<locals>.<lambda>"), (466, 462, "cos_real.<locals>.bounds_at"), (459, 455, "sin_real.<locals>.bounds_at"), (417, 413, "log_real.<locals>.<lambda>"), (403, 399, "exp_real.<locals>.bounds_at")]
section
variable {C : Cx} {P : Params}
theorem fK (hC : C.K = hK P) {g : Str} {i : Nat} (a m c : Nat) (h : (nsIn (hK P) mainGlobals g, keepIn (hK P) (.ref a), (hK P).lookup a, codeIn (hK P) (.ref c) g) = (some (some (.ref a)), true, some (hF (defAt i) g g m c), true) := by kernel_rfl) : FnIs C g i := by
  obtain ⟨h1, h⟩ := Prod.mk.inj h
  obtain ⟨h2, h⟩ := Prod.mk.inj h
  obtain ⟨h3, h4⟩ := Prod.mk.inj h
  refine ⟨?_⟩
  rw [hC]
  exact ⟨a, _, _, _, _, _, _, _, _, h1, h2, h3, h4⟩
theorem cK (hC : C.K = hK P) (hT : C.tabs = lawTabs) {g q : Str} {i : Nat} (a m c Q : Nat) (h : (nsIn (hK P) mainGlobals g, keepIn (hK P) (.ref a), (hK P).lookup a, codeIn (hK P) (.ref c) g) = (some (some (.ref a)), true, some (hF (defAt i) g g m c), true) := by kernel_rfl) (ht : (c, Q, g ++ ".<locals>." ++ q) ∈ lawTabs := by decide +kernel) : FnC C g i q := by
  obtain ⟨h1, h⟩ := Prod.mk.inj h
  obtain ⟨h2, h⟩ := Prod.mk.inj h
  obtain ⟨h3, h4⟩ := Prod.mk.inj h
  refine ⟨?_⟩
  rw [hC, hT]
  exact ⟨a, _, _, _, _, _, c, Q, _, _, h1, h2, h3, h4, ht⟩
end
theorem kb_abs (P : Params) : nsIn (hK P) mainGlobals "abs" = some none := by kernel_rfl
theorem kb_min (P : Params) : nsIn (hK P) mainGlobals "min" = some none := by kernel_rfl
theorem kb_max (P : Params) : nsIn (hK P) mainGlobals "max" = some none := by kernel_rfl
theorem kb_divmod (P : Params) : nsIn (hK P) mainGlobals "divmod" = some none := by kernel_rfl
theorem kb_len (P : Params) : nsIn (hK P) mainGlobals "len" = some none := by kernel_rfl
theorem kg_MORE (P : Params) : ∃ t, nsIn (hK P) mainGlobals "MORE" = some (some (.int 12 t)) := ⟨_, rfl⟩
theorem kg_MOST_PLACE (P : Params) : ∃ t, nsIn (hK P) mainGlobals "MOST_PLACE" = some (some (.int 17 t)) := ⟨_, rfl⟩
theorem kg_MOST_TURNS (P : Params) : ∃ t, nsIn (hK P) mainGlobals "MOST_TURNS" = some (some (.int 512 t)) := ⟨_, rfl⟩
theorem kg_REACH (P : Params) : ∃ t, nsIn (hK P) mainGlobals "REACH" = some (some (.int 65536 t)) := ⟨_, rfl⟩
theorem kr_plain (P : Params) (n : Str) : plainGet (hK P) 108 n = true := by kernel_rfl
theorem kr_has (P : Params) : hasDictIn (hK P) 108 = true := by kernel_rfl
theorem kr_mant (P : Params) : findIn (hK P) (.ref 108) "mantissa" = some none := by kernel_rfl
theorem kr_expo (P : Params) : findIn (hK P) (.ref 108) "exponent" = some none := by kernel_rfl
theorem kr_glob (P : Params) : nsIn (hK P) mainGlobals "Real" = some (some (.ref 108)) := by kernel_rfl
theorem kr_keep (P : Params) : keepIn (hK P) (.ref 108) = true := by kernel_rfl
theorem kr_makes (P : Params) : makesIn (hK P) 108 = true := by kernel_rfl
theorem kr_setA (P : Params) : findIn (hK P) (.ref 108) "__setattr__" = some (some (.builtin "object.__setattr__")) := by kernel_rfl
theorem kr_over (P : Params) : plainOver (hK P) 108 = true := by kernel_rfl
theorem kr_takeM (P : Params) : takerIn (hK P) 108 "mantissa" = some none := by kernel_rfl
theorem kr_takeE (P : Params) : takerIn (hK P) 108 "exponent" = some none := by kernel_rfl
theorem kr_init (P : Params) : ∃ (fI : Addr) (oc : Value) (od : Option Addr) (doc pm : Value) (an : Option Addr) (cdv ct : Value) (osl : Array (Option Value)),
    findIn (hK P) (.ref 108) "__init__" = some (some (.ref fI)) ∧ typeIn (hK P) (.ref fI) = some (.type "function") ∧
    (hK P).lookup fI = some ⟨oc, od, .func (fnOf "__init__" "Real.__init__" initDef.1 initDef.2.1 initDef.2.2 .none .none doc pm an cdv ct), osl⟩ ∧ codeIn (hK P) cdv "Real.__init__" = true := ⟨105, _, _, _, _, _, _, _, _, by kernel_rfl, by kernel_rfl, rfl, by kernel_rfl⟩
theorem law_all {C : Cx} {P : Params} (hK : C.K = hK P) (hR : C.RC = 108) (hT : C.tabs = lawTabs) (G : C.Good) : C.All where
  G := G
  RO := ⟨by rw [hK, hR]; exact kr_plain P, by rw [hK, hR]; exact kr_has P, by rw [hK, hR]; exact kr_mant P, by rw [hK, hR]; exact kr_expo P⟩
  RM := ⟨by rw [hK, hR]; exact kr_glob P, by rw [hK, hR]; exact kr_keep P, by rw [hK, hR]; exact kr_makes P, by rw [hK, hR]; exact kr_setA P, by rw [hK, hR]; exact kr_over P, by rw [hK, hR]; exact kr_takeM P, by rw [hK, hR]; exact kr_takeE P, by rw [hK, hR]; exact kr_has P, by rw [hK, hR]; exact kr_init P⟩
  f8 := fK hK 119 0 118
  f9 := fK hK 126 0 125
  f10 := fK hK 133 0 132
  f11 := fK hK 140 0 139
  f12 := fK hK 147 0 146
  f13 := fK hK 154 0 153
  f14 := fK hK 161 0 160
  f15 := fK hK 168 0 167
  f16 := fK hK 175 0 174
  f17 := fK hK 182 0 181
  f18 := fK hK 189 0 188
  f19 := fK hK 196 0 195
  f20 := fK hK 203 0 202
  f21 := fK hK 210 0 209
  f22 := fK hK 217 0 216
  f23 := fK hK 224 0 223
  f24 := fK hK 231 0 230
  f25 := fK hK 238 0 237
  f26 := fK hK 245 0 244
  f27 := fK hK 252 0 251
  f32 := fK hK 259 1 258
  f33 := fK hK 266 1 265
  f34 := fK hK 273 1 272
  f35 := fK hK 280 1 279
  f36 := fK hK 287 1 286
  f37 := fK hK 294 1 293
  f38 := fK hK 301 1 300
  f39 := fK hK 308 1 307
  f40 := fK hK 315 1 314
  f41 := fK hK 320 1 319
  f42 := fK hK 327 1 326
  f43 := fK hK 334 1 333
  f44 := fK hK 341 1 340
  f45 := fK hK 348 1 347
  f46 := fK hK 355 1 354
  f47 := fK hK 362 1 361
  f48 := fK hK 369 1 368
  f49 := fK hK 376 1 375
  f50 := fK hK 383 1 382
  f51 := fK hK 390 1 389
  f52 := fK hK 397 1 396
  f54 := fK hK 411 1 410
  f56 := fK hK 425 1 424
  f57 := fK hK 432 1 431
  f58 := fK hK 439 1 438
  f59 := fK hK 446 1 445
  f60 := fK hK 453 1 452
  f63 := fK hK 474 1 473
  f65 := fK hK 488 1 487
  f66 := fK hK 495 1 494
  f67 := fK hK 502 1 501
  f69 := fK hK 516 1 515
  f70 := fK hK 523 1 522
  f71 := fK hK 530 1 529
  f74 := fK hK 551 1 550
  f76 := fK hK 565 1 564
  f77 := fK hK 572 1 571
  f80 := fK hK 586 2 585
  f81 := fK hK 593 2 592
  f82 := fK hK 598 2 597
  f83 := fK hK 603 2 602
  f84 := fK hK 610 2 609
  f85 := fK hK 617 2 616
  f53 := cK hK hT 404 1 403 399
  f55 := cK hK hT 418 1 417 413
  f61 := cK hK hT 460 1 459 455
  f62 := cK hK hT 467 1 466 462
  f64 := cK hK hT 481 1 480 476
  f68 := cK hK hT 509 1 508 504
  f72 := cK hK hT 537 1 536 532
  f73 := cK hK hT 544 1 543 539
  f75 := cK hK hT 558 1 557 553
  f78 := cK hK hT 579 1 578 574
  b_abs := by rw [hK]; exact kb_abs P
  b_min := by rw [hK]; exact kb_min P
  b_max := by rw [hK]; exact kb_max P
  b_divmod := by rw [hK]; exact kb_divmod P
  b_len := by rw [hK]; exact kb_len P
  g_MORE := by rw [hK]; exact kg_MORE P
  g_MOST_PLACE := by rw [hK]; exact kg_MOST_PLACE P
  g_MOST_TURNS := by rw [hK]; exact kg_MOST_TURNS P
  g_REACH := by rw [hK]; exact kg_REACH P
end Mine
end
section
set_option maxHeartbeats 8000000
namespace Mine
theorem reps_of_ints {C : Cx} {w : View} : ∀ {xs : List Value} {l : List Int}, IntsAre xs l → Reps C w (l.map V.int) xs
  | _, _, .nil => rfl
  | _, _, .cons i t r => ⟨_, _, rfl, ⟨t, rfl⟩, reps_of_ints r⟩
theorem law_join {prog : Program} {w : World} {g₀ : Heap} {s₁ : Shared} {p : Program} {loose : List Str} {mean : ExcName → Option Value} {mg mb : Str → Option Value} {L fa : Addr} {cd : Value} {h₁ : Heap} {a : Addr} {items : List Value} {nums : List Int} {tk : Nat}
    (X' : (hK w.params).In g₀) (T' : Top p loose mean mg mb g₀) (F' : Fr g₀ L h₁ (fun x => List.lookup x [(Str.ofString "script", Value.ref a)].reverse))
    (N' : ∀ t ∈ lawTabs, h₁.get? t.2.1 = some (tabObj #[]) ∧ g₀.get? t.2.1 = none) (hc : ∀ t ∈ lawTabs, CodeHd g₀ t.1 t.2.1) (hl : g₀.IsList a items.toArray) (hi : IntsAre items nums) (hlen : nums.length ≤ 63)
    (facts : ∀ C : Cx, C.All → LawFacts C 18 (2 + ((nums.length : Nat) : Int).fmod 8)) {R : Flow → Shared → Prop} {E : Value → Shared → Prop}
    (k : ∀ s', (∀ b o, g₀.get? b = some o → s'.heap.get? b = some o) → (∃ h tk, s' = { s₁ with heap := h, toks := tk }) → (∀ t ∈ lawTabs, ∃ ps, s'.heap.get? t.2.1 = some (tabObj ps)) → R (.ret (.bool true)) s') :
    wpAny (model prog w) (callerA.deeper (envOf "law" (defAt 86).2.2 L fa cd)) (execs (defAt 86).2.1 (envOf "law" (defAt 86).2.2 L fa cd)) R E { s₁ with heap := h₁, toks := tk } := by
  let C : Cx := { prog := prog, wd := w, K := hK w.params, h₀ := g₀, p := p, loose := loose, mean := mean, mg := mg, mb := mb, tabs := lawTabs, RC := 108 }
  have G : C.Good := ⟨X', T', fun t ht => (N' t ht).2, hc, by
    show ∀ t ∈ lawTabs, ∀ t' ∈ lawTabs, t.2.1 = t'.2.1 → t.2.2 = t'.2.2
    decide +kernel⟩
  have H : C.All := law_all rfl rfl rfl G
  have hS : ScopeOk (defAt 86).2.2 (psAt 86) := scopeOk_of (by kernel_rfl)
  let env : Env := envOf "law" (defAt 86).2.2 L fa cd
  let w₀ : View := fun b => g₀.get? b
  let F : Fc C := { A := callerA.deeper env, env := env, s₀ := { s₁ with heap := g₀ }, w₀ := w₀, n := 18, room := ⟨rfl, by show callerA.depth + 1 + 18 < recursionLimit; decide, by show callerA.units + 3 + 6 * 18 + 20 < cLine; decide⟩, kind := hS.kind, glob := rfl, bltn := rfl, nodup := hS.nodup, nodbg := hS.nodbg }
  have hN : F.env.scope.names = [(Str.ofString "script", NameKind.local), (Str.ofString "well", NameKind.local), (Str.ofString "bits", NameKind.local), (Str.ofString "x", NameKind.local), (Str.ofString "y", NameKind.local), (Str.ofString "small", NameKind.local), (Str.ofString "little", NameKind.local), (Str.ofString "naught", NameKind.local), (Str.ofString "one", NameKind.local), (Str.ofString "curve", NameKind.local), (Str.ofString "at", NameKind.local), (Str.ofString "due", NameKind.local), (Str.ofString "len", NameKind.globalImplicit), (Str.ofString "shifted_round", NameKind.globalImplicit), (Str.ofString "_law_drawn", NameKind.globalImplicit), (Str.ofString "Real", NameKind.globalImplicit), (Str.ofString "exp_real", NameKind.globalImplicit), (Str.ofString "log_real", NameKind.globalImplicit), (Str.ofString "sin_real", NameKind.globalImplicit), (Str.ofString "cos_real", NameKind.globalImplicit), (Str.ofString "atan_real", NameKind.globalImplicit), (Str.ofString "acos_real", NameKind.globalImplicit), (Str.ofString "same_real", NameKind.globalImplicit), (Str.ofString "_law_is_odd", NameKind.globalImplicit), (Str.ofString "_law_are_ordered", NameKind.globalImplicit), (Str.ofString "_law_are_bound", NameKind.globalImplicit), (Str.ofString "_law_are_angles", NameKind.globalImplicit)] := by show (defAt 86).2.2.names = _; rfl
  have ok : Ok C w₀ { s₁ with heap := h₁, toks := tk } := ⟨fun b o e => F'.keep b o e, fun _ _ e => e, fun t ht => ⟨#[], (N' t ht).1, trivial, fun pos cv q => by cases q⟩, fun t ht => (N' t ht).2⟩
  have hL : g₀.get? L = none := Heap.get?_none_of_le F'.above
  have fi : FI F false ([.lst (nums.map V.int)] ++ List.replicate 26 .undef) { s₁ with heap := h₁, toks := tk } w₀ := by
    refine ⟨⟨h₁, tk, rfl⟩, fun b o _ e => F'.keep b o e, fun _ _ e => e, fun _ _ _ _ _ => rfl, ok, hL, hL, ⟨_, F'.ns, fun i x v hn hv hu => ?_⟩, (fun i x kd c v _ _ hcl => by cases hcl), (fun x c _ hcl => by cases hcl), (fun x y c h1 => by cases h1)⟩
    rcases i with _ | i
    · rw [n0 hN] at hn; cases hn
      cases hv
      exact ⟨.ref a, rfl, a, items, rfl, hl, reps_of_ints hi⟩
    · have hv' : (List.replicate 26 V.undef)[i]? = some v := hv
      rw [List.getElem?_replicate] at hv'
      split at hv'
      · exact absurd (Option.some.inj hv').symm hu
      · cases hv'
  have hlm : (((nums.map V.int).length : Nat) : Int) = ((nums.length : Nat) : Int) := by rw [List.length_map]
  have K := facts C H
  refine law_body H hlen (n := 17) (by decide) (F := F) rfl (bits := 2 + ((nums.length : Nat) : Int).fmod 8) (by rw [hlm]) K hN _ w₀ fi trivial R E (fun _ _ _ _ hF => hF.elim) fun v x fz' ρ' s' w' hv fi' rv => ?_
  subst hv
  obtain rfl : x = .bool true := rv
  refine k s' (fun b o e => fi'.ok.vin _ _ (fi'.ok.top b o e)) fi'.same fun t ht => ?_
  obtain ⟨ps, e, _⟩ := fi'.ok.tabs t ht
  exact ⟨ps, e⟩
end Mine
end
section
set_option maxHeartbeats 8000000
namespace Mine
theorem tabs_of_news {g₀ h₁ : Heap} {L : Addr} (N : News g₀ L h₁ [(574, tabObj #[]), (532, tabObj #[]), (539, tabObj #[]), (476, tabObj #[]), (553, tabObj #[]), (504, tabObj #[]), (462, tabObj #[]), (455, tabObj #[]), (413, tabObj #[]), (399, tabObj #[])]) :
    ∀ t ∈ lawTabs, h₁.get? t.2.1 = some (tabObj #[]) ∧ g₀.get? t.2.1 = none := fun t ht => by
  have key : (t.2.1, tabObj #[]) ∈ [((574 : Addr), tabObj #[]), (532, tabObj #[]), (539, tabObj #[]), (476, tabObj #[]), (553, tabObj #[]), (504, tabObj #[]), (462, tabObj #[]), (455, tabObj #[]), (413, tabObj #[]), (399, tabObj #[])] := by
    simp only [lawTabs, List.mem_cons, List.not_mem_nil, or_false] at ht
    rcases ht with rfl | rfl | rfl | rfl | rfl | rfl | rfl | rfl | rfl | rfl <;> simp
  exact ⟨(N _ key).1, (N _ key).2.2⟩
theorem heads_of {g₀ : Heap} (h1 : CodeHd g₀ 578 574) (h2 : CodeHd g₀ 536 532) (h3 : CodeHd g₀ 543 539) (h4 : CodeHd g₀ 480 476) (h5 : CodeHd g₀ 557 553) (h6 : CodeHd g₀ 508 504) (h7 : CodeHd g₀ 466 462) (h8 : CodeHd g₀ 459 455) (h9 : CodeHd g₀ 417 413) (h10 : CodeHd g₀ 403 399) :
    ∀ t ∈ lawTabs, CodeHd g₀ t.1 t.2.1 := fun t ht => by
  simp only [lawTabs, List.mem_cons, List.not_mem_nil, or_false] at ht
  rcases ht with rfl | rfl | rfl | rfl | rfl | rfl | rfl | rfl | rfl | rfl <;> assumption
theorem grown_of {h : Heap} (k : ∀ t ∈ lawTabs, ∃ ps, h.get? t.2.1 = some (tabObj ps)) : GrownAll [(578, 574), (536, 532), (543, 539), (480, 476), (557, 553), (508, 504), (466, 462), (459, 455), (417, 413), (403, 399)] h := by
  have e : ∀ (l : List (Addr × Addr × Str)), (∀ t ∈ l, ∃ ps, h.get? t.2.1 = some (tabObj ps)) → GrownAll (l.map fun t => (t.1, t.2.1)) h := fun l => by
    induction l with
    | nil => intro _; trivial
    | cons t r ih => intro hk; exact ⟨hk t (List.mem_cons_self ..), ih fun u hu => hk u (List.mem_cons_of_mem _ hu)⟩
  exact e lawTabs k
theorem law_end {c : ClaimW} {cl : Str → Option Addr} {mean : ExcName → Option Value} {args : List WData} {g₀ : Heap} {s₁ s' : Shared} (hg : s₁.gens = #[]) (hr : ∀ x, c.raises args x = false) (hp : c.post args (.bool true) args = true)
    (h1 : ∀ b o, g₀.get? b = some o → s'.heap.get? b = some o) (h2 : ∃ h tk, s' = { s₁ with heap := h, toks := tk }) (h3 : ∀ t ∈ lawTabs, ∃ ps, s'.heap.get? t.2.1 = some (tabObj ps)) :
    GoodW c cl mean args { s₁ with heap := g₀ } (.ok (.ret (.bool true))) s' ∧ GrownAll [(578, 574), (536, 532), (543, 539), (480, 476), (557, 553), (508, 504), (466, 462), (459, 455), (417, 413), (403, 399)] s'.heap := by
  refine ⟨⟨.inl ⟨.bool true, .bool true, [], rfl, hr, .bool true, hp, fun _ => ⟨List.nodup_nil, nofun⟩⟩, h1, ?_, ?_⟩, grown_of h3⟩
  · obtain ⟨h, tk, rfl⟩ := h2; rfl
  · obtain ⟨h, tk, rfl⟩ := h2; exact hg
theorem law_join' {prog : Program} {w : World} {g₀ : Heap} {s₁ : Shared} {p : Program} {loose : List Str} {mean : ExcName → Option Value} {mg mb : Str → Option Value} {L fa : Addr} {cd : Value} {h₁ : Heap} {a : Addr} {items : List Value} {nums : List Int} {tk : Nat} {name : Str} {scope : Scope} {body : List Stmt} {m : Str → Option Value}
    (X' : (hK w.params).In g₀) (T' : Top p loose mean mg mb g₀) (F' : Fr g₀ L h₁ m)
    (N' : News g₀ L h₁ [(574, tabObj #[]), (532, tabObj #[]), (539, tabObj #[]), (476, tabObj #[]), (553, tabObj #[]), (504, tabObj #[]), (462, tabObj #[]), (455, tabObj #[]), (413, tabObj #[]), (399, tabObj #[])]) (hc : ∀ t ∈ lawTabs, CodeHd g₀ t.1 t.2.1) (hl : g₀.IsList a items.toArray) (hi : IntsAre items nums) (hlen : nums.length ≤ 63)
    (hm : m = (fun x => List.lookup x [(Str.ofString "script", Value.ref a)].reverse)) (hname : name = "law") (hscope : scope = (defAt 86).2.2) (hbody : body = (defAt 86).2.1)
    (facts : ∀ C : Cx, C.All → LawFacts C 18 (2 + ((nums.length : Nat) : Int).fmod 8)) {R : Flow → Shared → Prop} {E : Value → Shared → Prop}
    (k : ∀ s', (∀ b o, g₀.get? b = some o → s'.heap.get? b = some o) → (∃ h tk, s' = { s₁ with heap := h, toks := tk }) → (∀ t ∈ lawTabs, ∃ ps, s'.heap.get? t.2.1 = some (tabObj ps)) → R (.ret (.bool true)) s') :
    wpAny (model prog w) (callerA.deeper (envOf name scope L fa cd)) (execs body (envOf name scope L fa cd)) R E { s₁ with heap := h₁, toks := tk } := by
  subst hm hname hscope hbody
  exact law_join X' T' F' (tabs_of_news N') hc hl hi hlen facts k
theorem len_of {n : Nat} (h : ¬ ((63 : Nat) : Int) < ((n : Nat) : Int)) : n ≤ 63 := by omega
theorem law_facts {n : Nat} : ∀ C : Cx, C.All → LawFacts C 18 (2 + ((n : Nat) : Int).fmod 8) := fun C H => by
  have e : (2 : Int) + ((n : Nat) : Int).fmod 8 = ((2 + n % 8 : Nat) : Int) := by
    rw [Int.fmod_eq_emod_of_nonneg _ (by decide)]; omega
  rw [e]
  have h : n % 8 < 8 := Nat.mod_lt _ (by decide)
  generalize n % 8 = m at h
  match m, h with
  | 0, _ => exact facts2 H
  | 1, _ => exact facts3 H
  | 2, _ => exact facts4 H
  | 3, _ => exact facts5 H
  | 4, _ => exact facts6 H
  | 5, _ => exact facts7 H
  | 6, _ => exact facts8 H
  | 7, _ => exact facts9 H
end Mine
set_option maxHeartbeats 4000000
theorem PySem.Challenge.cw_pq1027_01_holds : PySem.Challenge.rw_pq1027_01.Holds := by
  w_on
  refine holds_law Mine.h_said fun said => ?_
  refine holds_open (q := Mine.hV) (loose := ["REACH"]) (Xt := Mine.hX) (XP := XL Mine.hV [("REACH", .int 65536)]) (Yf := Mine.hH.obs) (Ya := Mine.hH.val) (YP := Hook.says (kmHook Mine.hK Mine.hA (fun _ => by kernel_rfl) [574, 532, 539, 476, 553, 504, 462, 455, 413, 399])) (N := 9000) (d := ⟨"law", ⟨[], [⟨"script", none, ⟨399, 8, 399, 14⟩⟩], none, [], [], none, []⟩, (Mine.defAt 86).2.1, (Mine.defAt 86).2.2, ⟨399, 0, 411, 131⟩⟩) (kwd := []) Mine.h_left (Hook.of Mine.hH) (Hook.keeps Mine.hH) (fun s e => xl_of s (Bool.and_eq_true_iff.mp e).1) XL.keeps (by kernel_rfl) (by kernel_rfl) (by kernel_rfl) (fun s e => recFacts_of (Bool.and_eq_true_iff.mp e).2) (by kernel_rfl) said (by decide +kernel) ⟨rfl, rfl, rfl, rfl, rfl, by decide +kernel⟩ ?hw ?hc
  case hw => w_witness2
  k_fill
  intro w s₀ s₁ mg mb G Y fa o pm cd doc dV kV ho hd hcd hD hmg hg args vals as hpre hlay hrd hwl hlo
  have KX := km_in_of Y
  km_tabs Y
  have X := (Ground.X G).1
  have V := (Ground.X G).2
  refine Ground.open G ?_
  intro T B D TE TW
  try (refine guard_noD D (by decide +kernel) ?_; clear D)
  dsimp only at hmg
  km_lay T hmg ho hd cd
  clear hmg
  wrow_args hpre hlay hrd hwl hlo
  refine enter_call ?_
  w_top on
  kn_posts
  w_call any ho hd hcd hD T F
  clear hd
  kn_ghosts F T
  k_drop
  (refine' Mine.law_join' (s₁ := ?js1) ?jX ?jT ?jF ?jN ?jhc ?jhl ?jhi ?jhlen ?jhm ?jhname ?jhscope ?jhbody Mine.law_facts ?jk;(case jX => assumption);(case jF => assumption); (case jT => assumption);(case jN => assumption);(case jhm => rfl);(case jhname => rfl); (case jhscope => rfl);(case jhbody => rfl);(case jhc => exact Mine.heads_of (by with_reducible assumption) (by with_reducible assumption) (by with_reducible assumption) (by with_reducible assumption) (by with_reducible assumption) (by with_reducible assumption) (by with_reducible assumption) (by with_reducible assumption) (by with_reducible assumption) (by with_reducible assumption) );(case jhl => assumption);(case jhi => assumption);(case jhlen => exact Mine.len_of (by assumption));(case jk => exact fun s' h1 h2 h3 => Mine.law_end (by assumption) (raisesW_false (by wrow_none_raised)) (by wrow_post) h1 h2 h3))
end
